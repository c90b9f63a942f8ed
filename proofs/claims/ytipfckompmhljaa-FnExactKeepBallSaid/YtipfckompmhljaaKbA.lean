/- Parts of networks near a node: lifted. Conditions: none. -/
import Derived.Test.YtipfckompmhljaaL6
import Derived.Test.YtipfckompmhljaaNis
import Derived.Test.YtipfckompmhljaaCon
import Derived.Test.YtipfckompmhljaaRep
import Derived.Test.YtipfckompmhljaaDstA
namespace Go.Proofs.Ytipfckompmhljaa
open Go Dv
set_option linter.unusedSimpArgs false
set_option linter.unusedVariables false
set_option maxRecDepth 100000
set_option maxHeartbeats 4000000
noncomputable def G5(r_:Int)(K3:(List Int))(out:List Int)(Jg:Int):Option (((List Int)×Int)⊕((List Int))):=
 if Jg<(K3.length:Int)then
  ck (0≤Jg∧Jg.toNat<K3.length)<|
  if(Gq (K3.getD Jg.toNat default) (0:Int) r_)=true then
   ck (out.length+1<1099511627776)<|
   some (Sum.inl ((out++[Jg]),IntKind.i64.wrap (Jg+1)))
  else
   some (Sum.inl (out,IntKind.i64.wrap (Jg+1)))
 else
  some (Sum.inr out)
noncomputable def Jh(r_:Int)(K3:(List Int))(v:(List Int)×Int):Option ((List Int)):=Hy (fun v=>G5 r_ K3 v.1 v.2) v
noncomputable def PL(AC:List (List (Int×Int)))(AV:List Int)(AL:List Int)(v_:Int)(r_:Int):Option ((List Int)×Bool):=
 ck (BX AC)<|
 ck (AV.length<1099511627776)<|
 ck (AL.length<1099511627776)<|
 if(Eg AC AV AL)=true then
  (DU AC AV AL v_).bind fun eP=>
  if eP=true then
   if(Gq r_ (0:Int) (40:Int))=true then
    (FY AC AV AL v_).bind fun K3=>
    (Jh r_ K3 ([],0)).bind fun UX=>
    some (UX,true)
   else
    some ([],false)
  else
   some ([],false)
 else
  some ([],false)
def XI:SC:=
 .seq
 (.ops [
 ⟨(some 30),(.binOp .lss 3 (.tmp 29) (.tmp 28) 3),0,none⟩])
 (.seq
 (.cond (.tmp 30)
 .skip
 (.exit 0))
 (.seq
 (.block 1
 (.seq
 (.ops [
 ⟨(some 31),(.move (.tmp 29)),3,none⟩,
 ⟨(some 32),(.indexAddr 23 (.tmp 27) (.tmp 29)),0,none⟩,
 ⟨(some 33),(.load 3 (.tmp 32)),3,none⟩,
 ⟨(some 9),(.assign (.tmp 31)),3,none⟩,
 ⟨(some 10),(.assign (.tmp 33)),3,none⟩])
 (.seq
 (.ops [
 ⟨(some 34),(.move (.tmp 10)),3,none⟩,
 ⟨(some 35),(.move (.tmp 2)),3,none⟩,
 ⟨(some 36),(.call ⟨(.value (.func 77)), #[(.tmp 34),(.const (.int .i64 0)),(.tmp 35)], #[3,3,3]⟩),4,none⟩])
 (.cond (.tmp 36)
 (.ops [
 ⟨(some 37),(.move (.tmp 8)),23,none⟩,
 ⟨(some 38),(.move (.tmp 9)),3,none⟩,
 ⟨(some 39),(.buildSlice 23 1 #[(0,(.tmp 38))]),23,none⟩,
 ⟨(some 40),(.call ⟨(.builtin .append), #[(.tmp 37),(.tmp 39)], #[23,23]⟩),23,none⟩,
 ⟨(some 8),(.assign (.tmp 40)),23,none⟩])
 .skip))))
 (.ops [
 ⟨(some 41),(.binOp .add 3 (.tmp 29) (.const (.int .i64 1)) 3),3,none⟩,
 ⟨(some 29),(.move (.tmp 41)),3,none⟩])))
def nP:SC:= .loop XI
def k46:SC:=
 .seq
 (.ops [
 ⟨(some 3),(.box 31 (.tmp 0)),0,none⟩,
 ⟨(some 6),(.assign (.const (.slice none 0 0))),23,none⟩,
 ⟨(some 7),(.assign (.const (.bool false))),4,none⟩])
 (.seq
 (.seq
 (.ops [
 ⟨(some 11),(.load 31 (.tmp 3)),31,none⟩,
 ⟨(some 12),(.call ⟨(.value (.func 37)), #[(.tmp 11)], #[31]⟩),4,none⟩,
 ⟨(some 13),(.unOp .not 4 (.tmp 12)),4,none⟩,
 ⟨(some 14),(.move (.tmp 13)),4,none⟩,
 ⟨(some 15),(.load 31 (.tmp 3)),31,(some (some 14,false))⟩,
 ⟨(some 16),(.move (.tmp 1)),3,(some (some 14,false))⟩,
 ⟨(some 17),(.call ⟨(.value (.func 94)), #[(.tmp 15),(.tmp 16)], #[31,3]⟩),4,(some (some 14,false))⟩,
 ⟨(some 18),(.unOp .not 4 (.tmp 17)),4,(some (some 14,false))⟩,
 ⟨(some 19),(.pick (.tmp 14) (.const (.bool true)) (.tmp 18)),4,none⟩,
 ⟨(some 20),(.move (.tmp 19)),4,none⟩,
 ⟨(some 21),(.move (.tmp 2)),3,(some (some 20,false))⟩,
 ⟨(some 22),(.call ⟨(.value (.func 77)), #[(.tmp 21),(.const (.int .i64 0)),(.const (.int .i64 40))], #[3,3,3]⟩),4,(some (some 20,false))⟩,
 ⟨(some 23),(.unOp .not 4 (.tmp 22)),4,(some (some 20,false))⟩,
 ⟨(some 24),(.pick (.tmp 20) (.const (.bool true)) (.tmp 23)),4,none⟩])
 (.cond (.tmp 24)
 (.seq
 (.ops [
 ⟨(some 6),(.assign (.const (.slice none 0 0))),23,none⟩,
 ⟨(some 7),(.assign (.const (.bool false))),4,none⟩])
 .ret)
 .skip))
 (.seq
 (.ops [
 ⟨(some 8),(.assign (.const (.slice none 0 0))),23,none⟩])
 (.seq
 (.seq
 (.ops [
 ⟨(some 25),(.load 31 (.tmp 3)),31,none⟩,
 ⟨(some 26),(.move (.tmp 1)),3,none⟩,
 ⟨(some 27),(.call ⟨(.value (.func 82)), #[(.tmp 25),(.tmp 26)], #[31,3]⟩),23,none⟩,
 ⟨(some 28),(.call ⟨(.builtin .len), #[(.tmp 27)], #[23]⟩),3,none⟩,
 ⟨(some 29),(.move (.const (.int .i64 0))),3,none⟩])
 (.block 0
 nP))
 (.seq
 (.ops [
 ⟨(some 42),(.move (.tmp 8)),23,none⟩,
 ⟨(some 6),(.assign (.tmp 42)),23,none⟩,
 ⟨(some 7),(.assign (.const (.bool true))),4,none⟩])
 .ret))))
theorem A2T:Try.f46.body.map (Bh lends)=some k46:=by kernel_rfl
theorem AHK:CB Try.f46 3=true:=by kernel_rfl
theorem c46{a l:List D}{r:D×List D}(h:Bq Y.env k46 (fin AX l.length [ResultVar.tmp 6,ResultVar.tmp 7] r) (entry a l))(ha:a.length=3):Y.call 46 a l=some r:=
 AU (Y:=Y) rfl Try.func46 (ha▸AHK) A2T h
def Eb(r_:Int)(K3:(List Int))(out:List Int)(Jg:Int)(s:St):Prop:=s.v 2=D.int .i64 r_∧s.v 8=D.own 3 (AP (D.int .i64) out)∧s.v 27=D.own 3 (AP (D.int .i64) K3)∧s.v 28=D.int .i64 (K3.length:Int)∧s.v 29=D.int .i64 Jg
def JE(r_:Int)(K3:(List Int))(r:(List Int))(ex:Ex)(s:St):Prop:=ex= .exit 0∧s.v 8=D.own 3 (AP (D.int .i64) r)
theorem TU(r_:Int)(K3:(List Int)){v:(List Int)×Int}{s:St}{r:(List Int)}(h:Jh r_ K3 v=some r)(hM:Eb r_ K3 v.1 v.2 s):Bq Y.env nP (JE r_ K3 r) s:=by
 unfold Jh at h
 refine BN (c:=XI) (fun v=>G5 r_ K3 v.1 v.2) (fun v s=>Eb r_ K3 v.1 v.2 s) (JE r_ K3) ?_ h hM
 clear h hM s v r
 intro v s o hM h
 obtain⟨out,Jg⟩:=v
 dsimp only at h hM
 unfold G5 at h
 unfold Eb at hM
 obtain⟨m0,m1,m2,m3,m4⟩:=hM
 unfold XI
 by_cases e11:Jg<(K3.length:Int)
 ·rw [if_pos e11]at h
  obtain⟨e12,h⟩:=BF h
  have oo:=Gj (K3.getD Jg.toNat default) (0:Int) r_
  by_cases e14:(Gq (K3.getD Jg.toNat default) (0:Int) r_)=true
  ·rw [if_pos e14]at h
   obtain⟨e15,h⟩:=BF h
   obtain rfl:=Option.some.inj h
   simp (maxDischargeDepth:=9) only [↓AO,AB,Ac,BP,AJ,AQ,↓reduceIte,Nat.reduceEqDiff,Nat.reduceLT,Nat.reduceLeDiff,Nat.reduceAdd,m0,m1,m2,m3,m4,e11,e12.1,e12.2,oo,e14,e15,Eb,Ik]
  ·rw [if_neg e14]at h
   have e14f:(Gq (K3.getD Jg.toNat default) (0:Int) r_)=false:=Bool.eq_false_iff.mpr e14
   obtain rfl:=Option.some.inj h
   simp (maxDischargeDepth:=9) only [↓AO,AB,Ac,BP,AJ,AQ,↓reduceIte,Nat.reduceEqDiff,Nat.reduceLT,Nat.reduceAdd,m0,m1,m2,m3,m4,e11,e12.1,e12.2,oo,e14f,Eb,Ik]
 ·rw [if_neg e11]at h
  obtain rfl:=Option.some.inj h
  simp (maxDischargeDepth:=9) only [↓AO,AB,AQ,↓reduceIte,Nat.reduceEqDiff,Nat.reduceLT,m1,m3,m4,e11,Eb,JE,KF]
theorem Ub(AC:List (List (Int×Int)))(AV:List Int)(AL:List Int)(v_:Int)(r_:Int){r:(List Int)×Bool}(h:PL AC AV AL v_ r_=some r):Y.call 46 [D.agg [D.sl 100 (AP (fun x=>D.sl 102 (AY .i64 .i64 x)) AC),D.sl 3 (AP (D.int .i64) AV),D.sl 3 (AP (D.int .i64) AL)],D.int .i64 v_,D.int .i64 r_] []=some (D.tup [D.own 3 (AP (D.int .i64) r.1),D.bool r.2],[]):=by
 refine c46 ?_ rfl
 unfold k46
 unfold PL at h
 obtain⟨e1,h⟩:=BF h
 obtain⟨e2,h⟩:=BF h
 obtain⟨e3,h⟩:=BF h
 have c4:=TR AC AV AL e1 e2 e3
 by_cases e5:(Eg AC AV AL)=true
 ·rw [if_pos e5]at h
  obtain⟨eP,hl6,h⟩:=Ao h
  try dsimp only at h
  have c6:=Ie AC AV AL v_ hl6
  by_cases e7:eP=true
  ·rw [if_pos e7]at h
   have c8:=Gj r_ (0:Int) (40:Int)
   by_cases e9:(Gq r_ (0:Int) (40:Int))=true
   ·rw [if_pos e9]at h
    obtain⟨K3,hl10,h⟩:=Ao h
    try dsimp only at h
    have JC:=NI AC AV AL v_ hl10
    obtain⟨UX,hl12,h⟩:=Ao h
    try dsimp only at h
    simp (maxDischargeDepth:=9) only [↓AO,AB,Ac,BP,AJ,AQ,↓reduceIte,Nat.reduceEqDiff,Nat.reduceLT,Nat.reduceAdd,c4,e5,c6,e7,c8,e9,JC]
    refine Ay (TU r_ K3 hl12 ?_) ?_
    ·simp (maxDischargeDepth:=9) only [AB,AJ,↓reduceIte,Nat.reduceEqDiff,Nat.reduceLT,Eb]<;>(repeat' apply And.intro)<;>first | rfl | exact⟨_,rfl⟩ | exact⟨_,_,rfl⟩ | simp [AP,Bu]
    ·intro ex12 s12 hX12
     unfold JE at hX12
     obtain⟨rfl,n12_0⟩:=hX12
     obtain rfl:=Option.some.inj h
     simp (maxDischargeDepth:=9) only [↓AO,AB,Ac,AJ,AQ,↓reduceIte,Nat.reduceEqDiff,Nat.reduceLT,n12_0]
   ·rw [if_neg e9]at h
    have e9f:(Gq r_ (0:Int) (40:Int))=false:=Bool.eq_false_iff.mpr e9
    obtain rfl:=Option.some.inj h
    simp (maxDischargeDepth:=9) only [↓AO,AB,BP,AJ,AQ,↓reduceIte,Nat.reduceEqDiff,Nat.reduceLT,Nat.reduceAdd,c4,e5,c6,e7,c8,e9f]<;>(repeat' apply And.intro)<;>first | rfl | exact⟨_,rfl⟩ | exact⟨_,_,rfl⟩ | simp [AP,Bu]
  ·rw [if_neg e7]at h
   have e7f:eP=false:=Bool.eq_false_iff.mpr e7
   obtain rfl:=Option.some.inj h
   simp (maxDischargeDepth:=9) only [↓AO,AB,BP,AJ,AQ,↓reduceIte,Nat.reduceEqDiff,Nat.reduceLT,Nat.reduceAdd,c4,e5,c6,e7f]<;>(repeat' apply And.intro)<;>first | rfl | exact⟨_,rfl⟩ | exact⟨_,_,rfl⟩ | simp [AP,Bu]
 ·rw [if_neg e5]at h
  have e5f:(Eg AC AV AL)=false:=Bool.eq_false_iff.mpr e5
  obtain rfl:=Option.some.inj h
  simp (maxDischargeDepth:=9) only [↓AO,AB,BP,AJ,AQ,↓reduceIte,Nat.reduceEqDiff,Nat.reduceLT,Nat.reduceAdd,c4,e5f]<;>(repeat' apply And.intro)<;>first | rfl | exact⟨_,rfl⟩ | exact⟨_,_,rfl⟩ | simp [AP,Bu]
noncomputable def Cv(A7:List (List (Int×Int)))(A9:List Int)(A8:List Int)(Ah:List Int)(G6:Int→Int→Option Bool)(Cj:Int)(t8_1:List ((Int×Int)×Int×Int))(Bn:Int)(J2:Int):Option (((List ((Int×Int)×Int×Int))×Int×Int)⊕((List ((Int×Int)×Int×Int)))):=
 if J2<((A7.getD ((Ah.getD Cj.toNat default).toNat) default).length:Int)then
  (G6 (Ah.getD Cj.toNat default) J2).bind fun Ej=>
  if Ej=true then
   some (Sum.inl ((Sc t8_1 ((Ah.getD Cj.toNat default),J2) (Cj,Bn)),IntKind.i64.wrap (Bn+1),IntKind.i64.wrap (J2+1)))
  else
   some (Sum.inl (t8_1,Bn,IntKind.i64.wrap (J2+1)))
 else
  some (Sum.inr t8_1)
noncomputable def EO(A7:List (List (Int×Int)))(A9:List Int)(A8:List Int)(Ah:List Int)(G6:Int→Int→Option Bool)(Cj:Int)(v:(List ((Int×Int)×Int×Int))×Int×Int):Option ((List ((Int×Int)×Int×Int))):=Hy (fun v=>Cv A7 A9 A8 Ah G6 Cj v.1 v.2.1 v.2.2) v
noncomputable def Cw(A7:List (List (Int×Int)))(A9:List Int)(A8:List Int)(Ah:List Int)(G6:Int→Int→Option Bool)(Mc:List ((Int×Int)×Int×Int))(Cj:Int):Option (((List ((Int×Int)×Int×Int))×Int)⊕((List ((Int×Int)×Int×Int)))):=
 if Cj<(Ah.length:Int)then
  ck (0≤Cj∧Cj.toNat<Ah.length)<|
  ck (0≤(Ah.getD Cj.toNat default)∧(Ah.getD Cj.toNat default).toNat<A7.length)<|
  (EO A7 A9 A8 Ah G6 Cj (Mc,0,0)).bind fun Ej=>
  some (Sum.inl (Ej,IntKind.i64.wrap (Cj+1)))
 else
  some (Sum.inr Mc)
noncomputable def EP(A7:List (List (Int×Int)))(A9:List Int)(A8:List Int)(Ah:List Int)(G6:Int→Int→Option Bool)(v:(List ((Int×Int)×Int×Int))×Int):Option ((List ((Int×Int)×Int×Int))):=Hy (fun v=>Cw A7 A9 A8 Ah G6 v.1 v.2) v
noncomputable def Cx(A7:List (List (Int×Int)))(A9:List Int)(A8:List Int)(Ah:List Int)(G6:Int→Int→Option Bool)(Be:(List ((Int×Int)×Int×Int)))(t7_0:List (List (Int×Int)))(t7_1:List Int)(t7_2:List Int)(Dz:Int)(dF:List (Int×Int))(PM:Int):Option (((List (Int×Int))×Int)⊕((List (Int×Int)))):=
 if PM<((A7.getD ((Ah.getD Dz.toNat default).toNat) default).length:Int)then
  ck (0≤PM∧PM.toNat<(A7.getD ((Ah.getD Dz.toNat default).toNat) default).length)<|
  (G6 (Ah.getD Dz.toNat default) PM).bind fun j4=>
  if j4=true then
   ck (dF.length*2+2<1099511627776)<|
   some (Sum.inl ((dF++[((Ll Be ((BB (A7.getD ((Ah.getD Dz.toNat default).toNat) default) PM.toNat),(Bt (A7.getD ((Ah.getD Dz.toNat default).toNat) default) PM.toNat))).1.1,(Ll Be ((BB (A7.getD ((Ah.getD Dz.toNat default).toNat) default) PM.toNat),(Bt (A7.getD ((Ah.getD Dz.toNat default).toNat) default) PM.toNat))).1.2)]),IntKind.i64.wrap (PM+1)))
  else
   some (Sum.inl (dF,IntKind.i64.wrap (PM+1)))
 else
  some (Sum.inr dF)
noncomputable def EQ(A7:List (List (Int×Int)))(A9:List Int)(A8:List Int)(Ah:List Int)(G6:Int→Int→Option Bool)(Be:(List ((Int×Int)×Int×Int)))(t7_0:List (List (Int×Int)))(t7_1:List Int)(t7_2:List Int)(Dz:Int)(v:(List (Int×Int))×Int):Option ((List (Int×Int))):=Hy (fun v=>Cx A7 A9 A8 Ah G6 Be t7_0 t7_1 t7_2 Dz v.1 v.2) v
noncomputable def Cy(A7:List (List (Int×Int)))(A9:List Int)(A8:List Int)(Ah:List Int)(G6:Int→Int→Option Bool)(Be:(List ((Int×Int)×Int×Int)))(t7_0:List (List (Int×Int)))(t7_1:List Int)(t7_2:List Int)(Dz:Int):Option (((List (List (Int×Int)))×(List Int)×(List Int)×Int)⊕((List (List (Int×Int)))×(List Int)×(List Int))):=
 if Dz<(Ah.length:Int)then
  ck (0≤Dz∧Dz.toNat<Ah.length)<|
  ck (0≤(Ah.getD Dz.toNat default)∧(Ah.getD Dz.toNat default).toNat<A7.length)<|
  (EQ A7 A9 A8 Ah G6 Be t7_0 t7_1 t7_2 Dz ([],0)).bind fun KZ=>
  ck (t7_0.length+1<1099511627776)<|
  ck (0≤(Ah.getD Dz.toNat default)∧(Ah.getD Dz.toNat default).toNat<A8.length)<|
  ck (t7_2.length+1<1099511627776)<|
  if 0<(A9.length:Int)then
   ck (0≤(Ah.getD Dz.toNat default)∧(Ah.getD Dz.toNat default).toNat<A9.length)<|
   ck (t7_1.length+1<1099511627776)<|
   some (Sum.inl ((t7_0++[KZ]),(t7_1++[(A9.getD ((Ah.getD Dz.toNat default).toNat) default)]),(t7_2++[(A8.getD ((Ah.getD Dz.toNat default).toNat) default)]),IntKind.i64.wrap (Dz+1)))
  else
   some (Sum.inl ((t7_0++[KZ]),t7_1,(t7_2++[(A8.getD ((Ah.getD Dz.toNat default).toNat) default)]),IntKind.i64.wrap (Dz+1)))
 else
  some (Sum.inr (t7_0,t7_1,t7_2))
noncomputable def ER(A7:List (List (Int×Int)))(A9:List Int)(A8:List Int)(Ah:List Int)(G6:Int→Int→Option Bool)(Be:(List ((Int×Int)×Int×Int)))(v:(List (List (Int×Int)))×(List Int)×(List Int)×Int):Option ((List (List (Int×Int)))×(List Int)×(List Int)):=Hy (fun v=>Cy A7 A9 A8 Ah G6 Be v.1 v.2.1 v.2.2.1 v.2.2.2) v
noncomputable def Ig(A7:List (List (Int×Int)))(A9:List Int)(A8:List Int)(Ah:List Int)(G6:Int→Int→Option Bool):Option ((List (List (Int×Int)))×(List Int)×(List Int)):=
 (EP A7 A9 A8 Ah G6 (([]:List ((Int×Int)×Int×Int)),0)).bind fun Be=>
 (ER A7 A9 A8 Ah G6 Be ([],[],[],0)).bind fun Cu=>
 some (Cu.1,Cu.2.1,Cu.2.2)
def XJ:SC:=
 .seq
 (.ops [
 ⟨(some 33),(.binOp .lss 3 (.tmp 32) (.tmp 31) 3),0,none⟩])
 (.seq
 (.cond (.tmp 33)
 .skip
 (.exit 2))
 (.seq
 (.block 3
 (.seq
 (.ops [
 ⟨(some 34),(.move (.tmp 32)),3,none⟩,
 ⟨(some 12),(.assign (.tmp 34)),3,none⟩])
 (.seq
 (.ops [
 ⟨(some 35),(.move (.tmp 2)),105,none⟩,
 ⟨(some 36),(.move (.tmp 10)),3,none⟩,
 ⟨(some 37),(.move (.tmp 12)),3,none⟩,
 ⟨(some 38),(.call ⟨(.value (.tmp 35)), #[(.tmp 36),(.tmp 37)], #[3,3]⟩),4,none⟩])
 (.cond (.tmp 38)
 (.seq
 (.ops [
 ⟨(some 39),(.move (.tmp 8)),146,none⟩,
 ⟨(some 40),(.move (.tmp 10)),3,none⟩,
 ⟨(some 41),(.move (.tmp 12)),3,none⟩,
 ⟨(some 42),(.build 102 #[(0,(.tmp 40)),(1,(.tmp 41))]),102,none⟩,
 ⟨(some 43),(.move (.tmp 9)),3,none⟩,
 ⟨(some 44),(.move (.tmp 11)),3,none⟩,
 ⟨(some 45),(.build 102 #[(0,(.tmp 43)),(1,(.tmp 44))]),102,none⟩,
 ⟨none,(.mapUpdate 146 (.tmp 39) (.tmp 42) (.tmp 45)),0,none⟩])
 (.ops [
 ⟨(some 46),(.move (.tmp 11)),3,none⟩,
 ⟨(some 47),(.binOp .add 3 (.tmp 46) (.const (.int .i64 1)) 3),3,none⟩,
 ⟨(some 11),(.assign (.tmp 47)),3,none⟩]))
 .skip))))
 (.ops [
 ⟨(some 48),(.binOp .add 3 (.tmp 32) (.const (.int .i64 1)) 3),3,none⟩,
 ⟨(some 32),(.move (.tmp 48)),3,none⟩])))
def nQ:SC:= .loop XJ
def XK:SC:=
 .seq
 (.ops [
 ⟨(some 22),(.binOp .lss 3 (.tmp 21) (.tmp 20) 3),0,none⟩])
 (.seq
 (.cond (.tmp 22)
 .skip
 (.exit 0))
 (.seq
 (.block 1
 (.seq
 (.ops [
 ⟨(some 23),(.move (.tmp 21)),3,none⟩,
 ⟨(some 24),(.indexAddr 23 (.tmp 19) (.tmp 21)),0,none⟩,
 ⟨(some 25),(.load 3 (.tmp 24)),3,none⟩,
 ⟨(some 9),(.assign (.tmp 23)),3,none⟩,
 ⟨(some 10),(.assign (.tmp 25)),3,none⟩])
 (.seq
 (.ops [
 ⟨(some 11),(.assign (.const (.int .i64 0))),3,none⟩])
 (.seq
 (.ops [
 ⟨(some 26),(.fieldAddr 31 (.tmp 3) 0),0,none⟩,
 ⟨(some 27),(.load 29 (.tmp 26)),29,none⟩,
 ⟨(some 28),(.move (.tmp 10)),3,none⟩,
 ⟨(some 29),(.indexAddr 29 (.tmp 27) (.tmp 28)),0,none⟩,
 ⟨(some 30),(.load 100 (.tmp 29)),100,none⟩,
 ⟨(some 31),(.call ⟨(.builtin .len), #[(.tmp 30)], #[100]⟩),3,none⟩,
 ⟨(some 32),(.move (.const (.int .i64 0))),3,none⟩])
 (.block 2
 nQ)))))
 (.ops [
 ⟨(some 49),(.binOp .add 3 (.tmp 21) (.const (.int .i64 1)) 3),3,none⟩,
 ⟨(some 21),(.move (.tmp 49)),3,none⟩])))
def nR:SC:= .loop XK
def XL:SC:=
 .seq
 (.ops [
 ⟨(some 63),(.binOp .lss 3 (.tmp 62) (.tmp 61) 3),0,none⟩])
 (.seq
 (.cond (.tmp 63)
 .skip
 (.exit 6))
 (.seq
 (.block 7
 (.seq
 (.ops [
 ⟨(some 64),(.move (.tmp 62)),3,none⟩,
 ⟨(some 65),(.indexAddr 100 (.tmp 60) (.tmp 62)),0,none⟩,
 ⟨(some 66),(.load 102 (.tmp 65)),102,none⟩,
 ⟨(some 17),(.alloc 102),0,none⟩,
 ⟨(some 16),(.assign (.tmp 64)),3,none⟩,
 ⟨none,(.store 102 (.tmp 17) (.tmp 66)),0,none⟩])
 (.seq
 (.ops [
 ⟨(some 67),(.move (.tmp 2)),105,none⟩,
 ⟨(some 68),(.move (.tmp 14)),3,none⟩,
 ⟨(some 69),(.move (.tmp 16)),3,none⟩,
 ⟨(some 70),(.call ⟨(.value (.tmp 67)), #[(.tmp 68),(.tmp 69)], #[3,3]⟩),4,none⟩])
 (.cond (.tmp 70)
 (.ops [
 ⟨(some 71),(.move (.tmp 15)),100,none⟩,
 ⟨(some 72),(.move (.tmp 8)),146,none⟩,
 ⟨(some 73),(.load 102 (.tmp 17)),102,none⟩,
 ⟨(some 74),(.lookup 146 (.tmp 72) (.tmp 73) false),102,none⟩,
 ⟨(some 75),(.buildSlice 100 1 #[(0,(.tmp 74))]),100,none⟩,
 ⟨(some 76),(.call ⟨(.builtin .append), #[(.tmp 71),(.tmp 75)], #[100,100]⟩),100,none⟩,
 ⟨(some 15),(.assign (.tmp 76)),100,none⟩])
 .skip))))
 (.ops [
 ⟨(some 77),(.binOp .add 3 (.tmp 62) (.const (.int .i64 1)) 3),3,none⟩,
 ⟨(some 62),(.move (.tmp 77)),3,none⟩])))
def nS:SC:= .loop XL
def XM:SC:=
 .seq
 (.ops [
 ⟨(some 53),(.binOp .lss 3 (.tmp 52) (.tmp 51) 3),0,none⟩])
 (.seq
 (.cond (.tmp 53)
 .skip
 (.exit 4))
 (.seq
 (.block 5
 (.seq
 (.ops [
 ⟨(some 54),(.indexAddr 23 (.tmp 50) (.tmp 52)),0,none⟩,
 ⟨(some 55),(.load 3 (.tmp 54)),3,none⟩,
 ⟨(some 14),(.assign (.tmp 55)),3,none⟩])
 (.seq
 (.ops [
 ⟨(some 15),(.assign (.const (.slice none 0 0))),100,none⟩])
 (.seq
 (.seq
 (.ops [
 ⟨(some 56),(.fieldAddr 31 (.tmp 3) 0),0,none⟩,
 ⟨(some 57),(.load 29 (.tmp 56)),29,none⟩,
 ⟨(some 58),(.move (.tmp 14)),3,none⟩,
 ⟨(some 59),(.indexAddr 29 (.tmp 57) (.tmp 58)),0,none⟩,
 ⟨(some 60),(.load 100 (.tmp 59)),100,none⟩,
 ⟨(some 61),(.call ⟨(.builtin .len), #[(.tmp 60)], #[100]⟩),3,none⟩,
 ⟨(some 62),(.move (.const (.int .i64 0))),3,none⟩])
 (.block 6
 nS))
 (.seq
 (.ops [
 ⟨(some 78),(.fieldAddr 31 (.tmp 7) 0),0,none⟩,
 ⟨(some 79),(.load 29 (.tmp 78)),29,none⟩,
 ⟨(some 80),(.move (.tmp 15)),100,none⟩,
 ⟨(some 81),(.buildSlice 29 1 #[(0,(.tmp 80))]),29,none⟩,
 ⟨(some 82),(.call ⟨(.builtin .append), #[(.tmp 79),(.tmp 81)], #[29,29]⟩),29,none⟩,
 ⟨(some 83),(.fieldAddr 31 (.tmp 7) 0),0,none⟩,
 ⟨none,(.store 29 (.tmp 83) (.tmp 82)),0,none⟩])
 (.seq
 (.draws [
 (⟨[84,7,7],[84,85,86,87,88,89,90,91,90,3,92,85,91,7,91,93,93,92,7,92],[84]⟩,⟨(some 84),(.fieldAddr 31 (.tmp 7) 2),0,none⟩),
 (⟨[85,84,7],[84,85,86,87,88,89,90,91,90,3,92,85,91,7,91,93,93,92,7,92],[85]⟩,⟨(some 85),(.load 23 (.tmp 84)),23,none⟩),
 (⟨[86,3,3],[84,85,86,87,88,89,90,91,90,3,92,85,91,7,91,93,93,92,7,92],[86]⟩,⟨(some 86),(.fieldAddr 31 (.tmp 3) 2),0,none⟩),
 (⟨[87,86,3],[84,85,86,87,88,89,90,91,90,3,92,85,91,7,91,93,93,92,7,92],[87]⟩,⟨(some 87),(.load 23 (.tmp 86)),23,none⟩),
 (⟨[88,14,14],[84,85,86,87,88,89,90,91,90,3,92,85,91,7,91,93,93,92,7,92],[88]⟩,⟨(some 88),(.move (.tmp 14)),3,none⟩),
 (⟨[89,87,88,3,14],[84,85,86,87,88,89,90,91,90,3,92,85,91,7,91,93,93,92,7,92],[89]⟩,⟨(some 89),(.indexAddr 23 (.tmp 87) (.tmp 88)),0,none⟩),
 (⟨[90,89,3],[84,85,86,87,88,89,90,91,90,3,92,85,91,7,91,93,93,92,7,92],[90]⟩,⟨(some 90),(.load 3 (.tmp 89)),3,none⟩),
 (⟨[91,90,3],[84,85,86,87,88,89,90,91,90,3,92,85,91,7,91,93,93,92,7,92],[91,90,3]⟩,⟨(some 91),(.buildSlice 23 1 #[(0,(.tmp 90))]),23,none⟩),
 (⟨[92,85,91,7,91],[84,85,86,87,88,89,90,91,90,3,92,85,91,7,91,93,93,92,7,92],[92,85,91,7,91]⟩,⟨(some 92),(.call ⟨(.builtin .append), #[(.tmp 85),(.tmp 91)], #[23,23]⟩),23,none⟩),
 (⟨[93,7,7],[84,85,86,87,88,89,90,91,90,3,92,85,91,7,91,93,93,92,7,92],[93]⟩,⟨(some 93),(.fieldAddr 31 (.tmp 7) 2),0,none⟩),
 (⟨[93,92,7,92],[84,85,86,87,88,89,90,91,90,3,92,85,91,7,91,93,93,92,7,92],[93,92,7,92]⟩,⟨none,(.store 23 (.tmp 93) (.tmp 92)),0,none⟩)])
 (.seq
 (.ops [
 ⟨(some 94),(.fieldAddr 31 (.tmp 3) 1),0,none⟩,
 ⟨(some 95),(.load 23 (.tmp 94)),23,none⟩,
 ⟨(some 96),(.call ⟨(.builtin .len), #[(.tmp 95)], #[23]⟩),3,none⟩,
 ⟨(some 97),(.binOp .gtr 3 (.tmp 96) (.const (.int .i64 0)) 3),4,none⟩])
 (.cond (.tmp 97)
 (.draws [
 (⟨[98,7,7],[98,99,100,101,102,103,104,105,104,3,106,99,105,7,105,107,107,106,7,106],[98]⟩,⟨(some 98),(.fieldAddr 31 (.tmp 7) 1),0,none⟩),
 (⟨[99,98,7],[98,99,100,101,102,103,104,105,104,3,106,99,105,7,105,107,107,106,7,106],[99]⟩,⟨(some 99),(.load 23 (.tmp 98)),23,none⟩),
 (⟨[100,3,3],[98,99,100,101,102,103,104,105,104,3,106,99,105,7,105,107,107,106,7,106],[100]⟩,⟨(some 100),(.fieldAddr 31 (.tmp 3) 1),0,none⟩),
 (⟨[101,100,3],[98,99,100,101,102,103,104,105,104,3,106,99,105,7,105,107,107,106,7,106],[101]⟩,⟨(some 101),(.load 23 (.tmp 100)),23,none⟩),
 (⟨[102,14,14],[98,99,100,101,102,103,104,105,104,3,106,99,105,7,105,107,107,106,7,106],[102]⟩,⟨(some 102),(.move (.tmp 14)),3,none⟩),
 (⟨[103,101,102,3,14],[98,99,100,101,102,103,104,105,104,3,106,99,105,7,105,107,107,106,7,106],[103]⟩,⟨(some 103),(.indexAddr 23 (.tmp 101) (.tmp 102)),0,none⟩),
 (⟨[104,103,3],[98,99,100,101,102,103,104,105,104,3,106,99,105,7,105,107,107,106,7,106],[104]⟩,⟨(some 104),(.load 3 (.tmp 103)),3,none⟩),
 (⟨[105,104,3],[98,99,100,101,102,103,104,105,104,3,106,99,105,7,105,107,107,106,7,106],[105,104,3]⟩,⟨(some 105),(.buildSlice 23 1 #[(0,(.tmp 104))]),23,none⟩),
 (⟨[106,99,105,7,105],[98,99,100,101,102,103,104,105,104,3,106,99,105,7,105,107,107,106,7,106],[106,99,105,7,105]⟩,⟨(some 106),(.call ⟨(.builtin .append), #[(.tmp 99),(.tmp 105)], #[23,23]⟩),23,none⟩),
 (⟨[107,7,7],[98,99,100,101,102,103,104,105,104,3,106,99,105,7,105,107,107,106,7,106],[107]⟩,⟨(some 107),(.fieldAddr 31 (.tmp 7) 1),0,none⟩),
 (⟨[107,106,7,106],[98,99,100,101,102,103,104,105,104,3,106,99,105,7,105,107,107,106,7,106],[107,106,7,106]⟩,⟨none,(.store 23 (.tmp 107) (.tmp 106)),0,none⟩)])
 .skip))))))))
 (.ops [
 ⟨(some 108),(.binOp .add 3 (.tmp 52) (.const (.int .i64 1)) 3),3,none⟩,
 ⟨(some 52),(.move (.tmp 108)),3,none⟩])))
def nT:SC:= .loop XM
def k95:SC:=
 .seq
 (.ops [
 ⟨(some 3),(.box 31 (.tmp 0)),0,none⟩,
 ⟨(some 6),(.alloc 31),0,none⟩])
 (.seq
 (.ops [
 ⟨(some 7),(.alloc 31),0,none⟩])
 (.seq
 (.ops [
 ⟨(some 18),(.makeMap 146 none),146,none⟩,
 ⟨(some 8),(.assign (.tmp 18)),146,none⟩])
 (.seq
 (.seq
 (.ops [
 ⟨(some 19),(.move (.tmp 1)),23,none⟩,
 ⟨(some 20),(.call ⟨(.builtin .len), #[(.tmp 19)], #[23]⟩),3,none⟩,
 ⟨(some 21),(.move (.const (.int .i64 0))),3,none⟩])
 (.block 0
 nR))
 (.seq
 (.seq
 (.ops [
 ⟨(some 50),(.move (.tmp 1)),23,none⟩,
 ⟨(some 51),(.call ⟨(.builtin .len), #[(.tmp 50)], #[23]⟩),3,none⟩,
 ⟨(some 52),(.move (.const (.int .i64 0))),3,none⟩])
 (.block 4
 nT))
 (.seq
 (.ops [
 ⟨(some 109),(.load 31 (.tmp 7)),31,none⟩,
 ⟨none,(.store 31 (.tmp 6) (.tmp 109)),0,none⟩])
 .ret)))))
theorem A2U:Try.f95.body.map (Bh lends)=some k95:=by kernel_rfl
theorem AHM:CB Try.f95 3=true:=by kernel_rfl
theorem c95{a l:List D}{r:D×List D}(h:Bq Y.env k95 (fin AX l.length [ResultVar.cell 6 31] r) (entry a l))(ha:a.length=3):Y.call 95 a l=some r:=
 AU (Y:=Y) rfl Try.func95 (ha▸AHM) A2U h
def CP(A7:List (List (Int×Int)))(A9:List Int)(A8:List Int)(Ah:List Int)(G6:Int→Int→Option Bool)(t2__f:FuncId)(t2__c:List D)(Cj:Int)(t8_1:List ((Int×Int)×Int×Int))(Bn:Int)(J2:Int)(s:St):Prop:=s.v 1=D.sl 3 (AP (D.int .i64) Ah)∧s.v 2=D.clo t2__f t2__c∧s.v 3=D.box [D.sl 100 (AP (fun x=>D.sl 102 (AY .i64 .i64 x)) A7),D.sl 3 (AP (D.int .i64) A9),D.sl 3 (AP (D.int .i64) A8)]∧s.v 6=D.box [D.own 100 [],D.own 3 [],D.own 3 []]∧s.v 7=D.box [D.own 100 [],D.own 3 [],D.own 3 []]∧s.v 8=D.mp 102 102 (O4 t8_1)∧s.v 9=D.int .i64 Cj∧s.v 10=D.int .i64 (Ah.getD Cj.toNat default)∧s.v 11=D.int .i64 Bn∧s.v 19=D.sl 3 (AP (D.int .i64) Ah)∧s.v 20=D.int .i64 (Ah.length:Int)∧s.v 21=D.int .i64 Cj∧s.v 31=D.int .i64 ((A7.getD ((Ah.getD Cj.toNat default).toNat) default).length:Int)∧s.v 32=D.int .i64 J2
def El(A7:List (List (Int×Int)))(A9:List Int)(A8:List Int)(Ah:List Int)(G6:Int→Int→Option Bool)(t2__f:FuncId)(t2__c:List D)(Cj:Int)(r:(List ((Int×Int)×Int×Int)))(ex:Ex)(s:St):Prop:=ex= .exit 2∧s.v 1=D.sl 3 (AP (D.int .i64) Ah)∧s.v 2=D.clo t2__f t2__c∧s.v 3=D.box [D.sl 100 (AP (fun x=>D.sl 102 (AY .i64 .i64 x)) A7),D.sl 3 (AP (D.int .i64) A9),D.sl 3 (AP (D.int .i64) A8)]∧s.v 6=D.box [D.own 100 [],D.own 3 [],D.own 3 []]∧s.v 7=D.box [D.own 100 [],D.own 3 [],D.own 3 []]∧s.v 8=D.mp 102 102 (O4 r)∧s.v 19=D.sl 3 (AP (D.int .i64) Ah)∧s.v 20=D.int .i64 (Ah.length:Int)∧s.v 21=D.int .i64 Cj
theorem NK(A7:List (List (Int×Int)))(A9:List Int)(A8:List Int)(Ah:List Int)(G6:Int→Int→Option Bool)(t2__f:FuncId)(t2__c:List D)(Cj:Int)(t2__h: ∀(a0:Int) (a1:Int) (r:Bool),G6 a0 a1=some r→Y.call t2__f (D.int .i64 a0::D.int .i64 a1::t2__c) []=some (D.bool r,[]))(t2__l:lends t2__f=false){v:(List ((Int×Int)×Int×Int))×Int×Int}{s:St}{r:(List ((Int×Int)×Int×Int))}(h:EO A7 A9 A8 Ah G6 Cj v=some r)(hM:CP A7 A9 A8 Ah G6 t2__f t2__c Cj v.1 v.2.1 v.2.2 s):Bq Y.env nQ (El A7 A9 A8 Ah G6 t2__f t2__c Cj r) s:=by
 unfold EO at h
 refine BN (c:=XJ) (fun v=>Cv A7 A9 A8 Ah G6 Cj v.1 v.2.1 v.2.2) (fun v s=>CP A7 A9 A8 Ah G6 t2__f t2__c Cj v.1 v.2.1 v.2.2 s) (El A7 A9 A8 Ah G6 t2__f t2__c Cj) ?_ h hM
 clear h hM s v r
 intro v s o hM h
 obtain⟨t8_1,Bn,J2⟩:=v
 dsimp only at h hM
 unfold Cv at h
 unfold CP at hM
 obtain⟨m0,m1,m2,m3,m4,m5,m6,m7,m8,m9,m10,m11,m12,m13⟩:=hM
 unfold XJ
 by_cases e4:J2<((A7.getD ((Ah.getD Cj.toNat default).toNat) default).length:Int)
 ·rw [if_pos e4]at h
  obtain⟨Ej,hl5,h⟩:=Ao h
  try dsimp only at h
  have c5:=t2__h _ _ _ hl5
  by_cases e6:Ej=true
  ·rw [if_pos e6]at h
   obtain rfl:=Option.some.inj h
   simp (maxDischargeDepth:=9) only [↓AO,AB,BP,AJ,AQ,↓reduceIte,Nat.reduceEqDiff,Nat.reduceLT,Nat.reduceLeDiff,Nat.reduceAdd,m0,m1,m2,m3,m4,m5,m6,m7,m8,m9,m10,m11,m12,m13,t2__l,e4,c5,e6,CP,Ik]
  ·rw [if_neg e6]at h
   have e6f:Ej=false:=Bool.eq_false_iff.mpr e6
   obtain rfl:=Option.some.inj h
   simp (maxDischargeDepth:=9) only [↓AO,AB,BP,AJ,AQ,↓reduceIte,Nat.reduceEqDiff,Nat.reduceLT,Nat.reduceAdd,m0,m1,m2,m3,m4,m5,m6,m7,m8,m9,m10,m11,m12,m13,t2__l,e4,c5,e6f,CP,Ik]
 ·rw [if_neg e4]at h
  obtain rfl:=Option.some.inj h
  simp (maxDischargeDepth:=9) only [↓AO,AB,AQ,↓reduceIte,Nat.reduceEqDiff,Nat.reduceLT,m0,m1,m2,m3,m4,m5,m9,m10,m11,m12,m13,e4,CP,El,KF]
def Cz(A7:List (List (Int×Int)))(A9:List Int)(A8:List Int)(Ah:List Int)(G6:Int→Int→Option Bool)(t2__f:FuncId)(t2__c:List D)(Mc:List ((Int×Int)×Int×Int))(Cj:Int)(s:St):Prop:=s.v 1=D.sl 3 (AP (D.int .i64) Ah)∧s.v 2=D.clo t2__f t2__c∧s.v 3=D.box [D.sl 100 (AP (fun x=>D.sl 102 (AY .i64 .i64 x)) A7),D.sl 3 (AP (D.int .i64) A9),D.sl 3 (AP (D.int .i64) A8)]∧s.v 6=D.box [D.own 100 [],D.own 3 [],D.own 3 []]∧s.v 7=D.box [D.own 100 [],D.own 3 [],D.own 3 []]∧s.v 8=D.mp 102 102 (O4 Mc)∧s.v 19=D.sl 3 (AP (D.int .i64) Ah)∧s.v 20=D.int .i64 (Ah.length:Int)∧s.v 21=D.int .i64 Cj
def En(A7:List (List (Int×Int)))(A9:List Int)(A8:List Int)(Ah:List Int)(G6:Int→Int→Option Bool)(t2__f:FuncId)(t2__c:List D)(r:(List ((Int×Int)×Int×Int)))(ex:Ex)(s:St):Prop:=ex= .exit 0∧s.v 1=D.sl 3 (AP (D.int .i64) Ah)∧s.v 2=D.clo t2__f t2__c∧s.v 3=D.box [D.sl 100 (AP (fun x=>D.sl 102 (AY .i64 .i64 x)) A7),D.sl 3 (AP (D.int .i64) A9),D.sl 3 (AP (D.int .i64) A8)]∧s.v 6=D.box [D.own 100 [],D.own 3 [],D.own 3 []]∧s.v 7=D.box [D.own 100 [],D.own 3 [],D.own 3 []]∧s.v 8=D.mp 102 102 (O4 r)
theorem NL(A7:List (List (Int×Int)))(A9:List Int)(A8:List Int)(Ah:List Int)(G6:Int→Int→Option Bool)(t2__f:FuncId)(t2__c:List D)(t2__h: ∀(a0:Int) (a1:Int) (r:Bool),G6 a0 a1=some r→Y.call t2__f (D.int .i64 a0::D.int .i64 a1::t2__c) []=some (D.bool r,[]))(t2__l:lends t2__f=false){v:(List ((Int×Int)×Int×Int))×Int}{s:St}{r:(List ((Int×Int)×Int×Int))}(h:EP A7 A9 A8 Ah G6 v=some r)(hM:Cz A7 A9 A8 Ah G6 t2__f t2__c v.1 v.2 s):Bq Y.env nR (En A7 A9 A8 Ah G6 t2__f t2__c r) s:=by
 unfold EP at h
 refine BN (c:=XK) (fun v=>Cw A7 A9 A8 Ah G6 v.1 v.2) (fun v s=>Cz A7 A9 A8 Ah G6 t2__f t2__c v.1 v.2 s) (En A7 A9 A8 Ah G6 t2__f t2__c) ?_ h hM
 clear h hM s v r
 intro v s o hM h
 obtain⟨Mc,Cj⟩:=v
 dsimp only at h hM
 unfold Cw at h
 unfold Cz at hM
 obtain⟨m0,m1,m2,m3,m4,m5,m6,m7,m8⟩:=hM
 unfold XK
 by_cases e1:Cj<(Ah.length:Int)
 ·rw [if_pos e1]at h
  obtain⟨e2,h⟩:=BF h
  obtain⟨e3,h⟩:=BF h
  obtain⟨Ej,hl5,h⟩:=Ao h
  try dsimp only at h
  simp (maxDischargeDepth:=9) only [↓AO,AB,Ac,BP,AJ,AQ,↓reduceIte,Nat.reduceEqDiff,Nat.reduceLT,m2,m6,m7,m8,e1,e2.1,e2.2,e3.1,e3.2]
  refine Ay (NK A7 A9 A8 Ah G6 t2__f t2__c Cj t2__h t2__l hl5 ?_) ?_
  ·simp (maxDischargeDepth:=9) only [AB,↓reduceIte,Nat.reduceEqDiff,m0,m1,m2,m3,m4,m5,m6,m7,m8,CP]
  ·intro ex5 s5 hX5
   unfold El at hX5
   obtain⟨rfl,n5_0,n5_1,n5_2,n5_3,n5_4,n5_5,n5_6,n5_7,n5_8⟩:=hX5
   obtain rfl:=Option.some.inj h
   simp (maxDischargeDepth:=9) only [↓AO,AB,AQ,↓reduceIte,Nat.reduceEqDiff,Nat.reduceLT,n5_0,n5_1,n5_2,n5_3,n5_4,n5_5,n5_6,n5_7,n5_8,Cz,Ik]
 ·rw [if_neg e1]at h
  obtain rfl:=Option.some.inj h
  simp (maxDischargeDepth:=9) only [↓AO,AB,AQ,↓reduceIte,Nat.reduceEqDiff,Nat.reduceLT,m0,m1,m2,m3,m4,m5,m7,m8,e1,Cz,En,KF]
def CQ(A7:List (List (Int×Int)))(A9:List Int)(A8:List Int)(Ah:List Int)(G6:Int→Int→Option Bool)(t2__f:FuncId)(t2__c:List D)(Be:(List ((Int×Int)×Int×Int)))(t7_0:List (List (Int×Int)))(t7_1:List Int)(t7_2:List Int)(Dz:Int)(dF:List (Int×Int))(PM:Int)(s:St):Prop:=s.v 2=D.clo t2__f t2__c∧s.v 3=D.box [D.sl 100 (AP (fun x=>D.sl 102 (AY .i64 .i64 x)) A7),D.sl 3 (AP (D.int .i64) A9),D.sl 3 (AP (D.int .i64) A8)]∧s.v 6=D.box [D.own 100 [],D.own 3 [],D.own 3 []]∧s.v 7=D.box [D.own 100 (AP (fun x=>D.own 102 (AY .i64 .i64 x)) t7_0),D.own 3 (AP (D.int .i64) t7_1),D.own 3 (AP (D.int .i64) t7_2)]∧s.v 8=D.mp 102 102 (O4 Be)∧s.v 14=D.int .i64 (Ah.getD Dz.toNat default)∧s.v 15=D.own 102 (AY .i64 .i64 dF)∧s.v 50=D.sl 3 (AP (D.int .i64) Ah)∧s.v 51=D.int .i64 (Ah.length:Int)∧s.v 52=D.int .i64 Dz∧s.v 60=D.sl 102 (AY .i64 .i64 (A7.getD ((Ah.getD Dz.toNat default).toNat) default))∧s.v 61=D.int .i64 ((A7.getD ((Ah.getD Dz.toNat default).toNat) default).length:Int)∧s.v 62=D.int .i64 PM
def Eo(A7:List (List (Int×Int)))(A9:List Int)(A8:List Int)(Ah:List Int)(G6:Int→Int→Option Bool)(t2__f:FuncId)(t2__c:List D)(Be:(List ((Int×Int)×Int×Int)))(t7_0:List (List (Int×Int)))(t7_1:List Int)(t7_2:List Int)(Dz:Int)(r:(List (Int×Int)))(ex:Ex)(s:St):Prop:=ex= .exit 6∧s.v 2=D.clo t2__f t2__c∧s.v 3=D.box [D.sl 100 (AP (fun x=>D.sl 102 (AY .i64 .i64 x)) A7),D.sl 3 (AP (D.int .i64) A9),D.sl 3 (AP (D.int .i64) A8)]∧s.v 6=D.box [D.own 100 [],D.own 3 [],D.own 3 []]∧s.v 7=D.box [D.own 100 (AP (fun x=>D.own 102 (AY .i64 .i64 x)) t7_0),D.own 3 (AP (D.int .i64) t7_1),D.own 3 (AP (D.int .i64) t7_2)]∧s.v 8=D.mp 102 102 (O4 Be)∧s.v 14=D.int .i64 (Ah.getD Dz.toNat default)∧s.v 15=D.own 102 (AY .i64 .i64 r)∧s.v 50=D.sl 3 (AP (D.int .i64) Ah)∧s.v 51=D.int .i64 (Ah.length:Int)∧s.v 52=D.int .i64 Dz
theorem NM(A7:List (List (Int×Int)))(A9:List Int)(A8:List Int)(Ah:List Int)(G6:Int→Int→Option Bool)(t2__f:FuncId)(t2__c:List D)(Be:(List ((Int×Int)×Int×Int)))(t7_0:List (List (Int×Int)))(t7_1:List Int)(t7_2:List Int)(Dz:Int)(t2__h: ∀(a0:Int) (a1:Int) (r:Bool),G6 a0 a1=some r→Y.call t2__f (D.int .i64 a0::D.int .i64 a1::t2__c) []=some (D.bool r,[]))(t2__l:lends t2__f=false){v:(List (Int×Int))×Int}{s:St}{r:(List (Int×Int))}(h:EQ A7 A9 A8 Ah G6 Be t7_0 t7_1 t7_2 Dz v=some r)(hM:CQ A7 A9 A8 Ah G6 t2__f t2__c Be t7_0 t7_1 t7_2 Dz v.1 v.2 s):Bq Y.env nS (Eo A7 A9 A8 Ah G6 t2__f t2__c Be t7_0 t7_1 t7_2 Dz r) s:=by
 unfold EQ at h
 refine BN (c:=XL) (fun v=>Cx A7 A9 A8 Ah G6 Be t7_0 t7_1 t7_2 Dz v.1 v.2) (fun v s=>CQ A7 A9 A8 Ah G6 t2__f t2__c Be t7_0 t7_1 t7_2 Dz v.1 v.2 s) (Eo A7 A9 A8 Ah G6 t2__f t2__c Be t7_0 t7_1 t7_2 Dz) ?_ h hM
 clear h hM s v r
 intro v s o hM h
 obtain⟨dF,PM⟩:=v
 dsimp only at h hM
 unfold Cx at h
 unfold CQ at hM
 obtain⟨m0,m1,m2,m3,m4,m5,m6,m7,m8,m9,m10,m11,m12⟩:=hM
 unfold XL
 by_cases e6:PM<((A7.getD ((Ah.getD Dz.toNat default).toNat) default).length:Int)
 ·rw [if_pos e6]at h
  obtain⟨e7,h⟩:=BF h
  obtain⟨j4,hl8,h⟩:=Ao h
  try dsimp only at h
  have c8:=t2__h _ _ _ hl8
  by_cases e9:j4=true
  ·rw [if_pos e9]at h
   obtain⟨e10,h⟩:=BF h
   obtain rfl:=Option.some.inj h
   simp (maxDischargeDepth:=9) only [↓AO,AB,BP,AJ,AQ,↓reduceIte,Nat.reduceEqDiff,Nat.reduceLT,Nat.reduceLeDiff,Nat.reduceAdd,m0,m1,m2,m3,m4,m5,m6,m7,m8,m9,m10,m11,m12,t2__l,e6,e7.1,e7.2,c8,e9,e10,CQ,Ik]
  ·rw [if_neg e9]at h
   have e9f:j4=false:=Bool.eq_false_iff.mpr e9
   obtain rfl:=Option.some.inj h
   simp (maxDischargeDepth:=9) only [↓AO,AB,BP,AJ,AQ,↓reduceIte,Nat.reduceEqDiff,Nat.reduceLT,Nat.reduceAdd,m0,m1,m2,m3,m4,m5,m6,m7,m8,m9,m10,m11,m12,t2__l,e6,e7.1,e7.2,c8,e9f,CQ,Ik]
 ·rw [if_neg e6]at h
  obtain rfl:=Option.some.inj h
  simp (maxDischargeDepth:=9) only [↓AO,AB,AQ,↓reduceIte,Nat.reduceEqDiff,Nat.reduceLT,m0,m1,m2,m3,m4,m5,m6,m7,m8,m9,m11,m12,e6,CQ,Eo,KF]
def CR(A7:List (List (Int×Int)))(A9:List Int)(A8:List Int)(Ah:List Int)(G6:Int→Int→Option Bool)(t2__f:FuncId)(t2__c:List D)(Be:(List ((Int×Int)×Int×Int)))(t7_0:List (List (Int×Int)))(t7_1:List Int)(t7_2:List Int)(Dz:Int)(s:St):Prop:=s.v 2=D.clo t2__f t2__c∧s.v 3=D.box [D.sl 100 (AP (fun x=>D.sl 102 (AY .i64 .i64 x)) A7),D.sl 3 (AP (D.int .i64) A9),D.sl 3 (AP (D.int .i64) A8)]∧s.v 6=D.box [D.own 100 [],D.own 3 [],D.own 3 []]∧s.v 7=D.box [D.own 100 (AP (fun x=>D.own 102 (AY .i64 .i64 x)) t7_0),D.own 3 (AP (D.int .i64) t7_1),D.own 3 (AP (D.int .i64) t7_2)]∧s.v 8=D.mp 102 102 (O4 Be)∧s.v 50=D.sl 3 (AP (D.int .i64) Ah)∧s.v 51=D.int .i64 (Ah.length:Int)∧s.v 52=D.int .i64 Dz
def Ep(A7:List (List (Int×Int)))(A9:List Int)(A8:List Int)(Ah:List Int)(G6:Int→Int→Option Bool)(t2__f:FuncId)(t2__c:List D)(Be:(List ((Int×Int)×Int×Int)))(r:(List (List (Int×Int)))×(List Int)×(List Int))(ex:Ex)(s:St):Prop:=ex= .exit 4∧s.v 6=D.box [D.own 100 [],D.own 3 [],D.own 3 []]∧s.v 7=D.box [D.own 100 (AP (fun x=>D.own 102 (AY .i64 .i64 x)) r.1),D.own 3 (AP (D.int .i64) r.2.1),D.own 3 (AP (D.int .i64) r.2.2)]
theorem NN(A7:List (List (Int×Int)))(A9:List Int)(A8:List Int)(Ah:List Int)(G6:Int→Int→Option Bool)(t2__f:FuncId)(t2__c:List D)(Be:(List ((Int×Int)×Int×Int)))(t2__h: ∀(a0:Int) (a1:Int) (r:Bool),G6 a0 a1=some r→Y.call t2__f (D.int .i64 a0::D.int .i64 a1::t2__c) []=some (D.bool r,[]))(t2__l:lends t2__f=false){v:(List (List (Int×Int)))×(List Int)×(List Int)×Int}{s:St}{r:(List (List (Int×Int)))×(List Int)×(List Int)}(h:ER A7 A9 A8 Ah G6 Be v=some r)(hM:CR A7 A9 A8 Ah G6 t2__f t2__c Be v.1 v.2.1 v.2.2.1 v.2.2.2 s):Bq Y.env nT (Ep A7 A9 A8 Ah G6 t2__f t2__c Be r) s:=by
 unfold ER at h
 refine BN (c:=XM) (fun v=>Cy A7 A9 A8 Ah G6 Be v.1 v.2.1 v.2.2.1 v.2.2.2) (fun v s=>CR A7 A9 A8 Ah G6 t2__f t2__c Be v.1 v.2.1 v.2.2.1 v.2.2.2 s) (Ep A7 A9 A8 Ah G6 t2__f t2__c Be) ?_ h hM
 clear h hM s v r
 intro v s o hM h
 obtain⟨t7_0,t7_1,t7_2,Dz⟩:=v
 dsimp only at h hM
 unfold Cy at h
 unfold CR at hM
 obtain⟨m0,m1,m2,m3,m4,m5,m6,m7⟩:=hM
 unfold XM
 by_cases e3:Dz<(Ah.length:Int)
 ·rw [if_pos e3]at h
  obtain⟨e4,h⟩:=BF h
  obtain⟨e5,h⟩:=BF h
  obtain⟨KZ,hl7,h⟩:=Ao h
  try dsimp only at h
  simp (maxDischargeDepth:=9) only [↓AO,AB,Ac,BP,AJ,AQ,↓reduceIte,Nat.reduceEqDiff,Nat.reduceLT,m1,m5,m6,m7,e3,e4.1,e4.2,e5.1,e5.2]
  refine Ay (NM A7 A9 A8 Ah G6 t2__f t2__c Be t7_0 t7_1 t7_2 Dz t2__h t2__l hl7 ?_) ?_
  ·simp (maxDischargeDepth:=9) only [AB,↓reduceIte,Nat.reduceEqDiff,m0,m1,m2,m3,m4,m5,m6,m7,CQ]<;>(repeat' apply And.intro)<;>first | rfl | exact⟨_,rfl⟩ | exact⟨_,_,rfl⟩ | simp [AP,Bu]
  ·intro ex7 s7 hX7
   unfold Eo at hX7
   obtain⟨rfl,n7_0,n7_1,n7_2,n7_3,n7_4,n7_5,n7_6,n7_7,n7_8,n7_9⟩:=hX7
   obtain⟨e8,h⟩:=BF h
   obtain⟨e9,h⟩:=BF h
   obtain⟨e10,h⟩:=BF h
   by_cases e11:0<(A9.length:Int)
   ·rw [if_pos e11]at h
    obtain⟨e12,h⟩:=BF h
    obtain⟨e13,h⟩:=BF h
    obtain rfl:=Option.some.inj h
    simp (maxDischargeDepth:=9) only [↓AO,AB,Ac,AJ,AQ,↓reduceIte,Nat.reduceEqDiff,Nat.reduceLT,Nat.reduceLeDiff,Nat.reduceAdd,Nat.reduceBEq,e5.1,n7_0,n7_1,n7_2,n7_3,n7_4,n7_5,n7_6,n7_7,n7_8,n7_9,e8,e9.2,e10,e11,e12.2,e13,CR,Ik]
   ·rw [if_neg e11]at h
    obtain rfl:=Option.some.inj h
    simp (maxDischargeDepth:=9) only [↓AO,AB,Ac,AJ,AQ,↓reduceIte,Nat.reduceEqDiff,Nat.reduceLT,Nat.reduceLeDiff,Nat.reduceAdd,Nat.reduceBEq,e5.1,n7_0,n7_1,n7_2,n7_3,n7_4,n7_5,n7_6,n7_7,n7_8,n7_9,e8,e9.2,e10,e11,CR,Ik]
 ·rw [if_neg e3]at h
  obtain rfl:=Option.some.inj h
  simp (maxDischargeDepth:=9) only [↓AO,AB,AQ,↓reduceIte,Nat.reduceEqDiff,Nat.reduceLT,m2,m3,m6,m7,e3,CR,Ep,KF]
theorem Nk(A7:List (List (Int×Int)))(A9:List Int)(A8:List Int)(Ah:List Int)(G6:Int→Int→Option Bool)(t2__f:FuncId)(t2__c:List D)(t2__h: ∀(a0:Int) (a1:Int) (r:Bool),G6 a0 a1=some r→Y.call t2__f (D.int .i64 a0::D.int .i64 a1::t2__c) []=some (D.bool r,[]))(t2__l:lends t2__f=false){r:(List (List (Int×Int)))×(List Int)×(List Int)}(h:Ig A7 A9 A8 Ah G6=some r):Y.call 95 [D.agg [D.sl 100 (AP (fun x=>D.sl 102 (AY .i64 .i64 x)) A7),D.sl 3 (AP (D.int .i64) A9),D.sl 3 (AP (D.int .i64) A8)],D.sl 3 (AP (D.int .i64) Ah),D.clo t2__f t2__c] []=some (D.agg [D.own 100 (AP (fun x=>D.own 102 (AY .i64 .i64 x)) r.1),D.own 3 (AP (D.int .i64) r.2.1),D.own 3 (AP (D.int .i64) r.2.2)],[]):=by
 refine c95 ?_ rfl
 unfold k95
 unfold Ig at h
 obtain⟨Be,hl2,h⟩:=Ao h
 try dsimp only at h
 simp (maxDischargeDepth:=9) only [↓AO,AB,Ac,AJ,AQ,↓reduceIte,Nat.reduceEqDiff,Nat.reduceLT]
 refine Ay (NL A7 A9 A8 Ah G6 t2__f t2__c t2__h t2__l hl2 ?_) ?_
 ·simp (maxDischargeDepth:=9) only [AB,AJ,↓reduceIte,Nat.reduceEqDiff,Nat.reduceLT,Cz]
 ·intro ex2 s2 hX2
  unfold En at hX2
  obtain⟨rfl,n2_0,n2_1,n2_2,n2_3,n2_4,n2_5⟩:=hX2
  obtain⟨Cu,hl4,h⟩:=Ao h
  try dsimp only at h
  simp (maxDischargeDepth:=9) only [↓AO,AB,Ac,AQ,↓reduceIte,n2_0]
  refine Ay (NN A7 A9 A8 Ah G6 t2__f t2__c Be t2__h t2__l hl4 ?_) ?_
  ·simp (maxDischargeDepth:=9) only [AB,↓reduceIte,Nat.reduceEqDiff,n2_1,n2_2,n2_3,n2_4,n2_5,CR]<;>(repeat' apply And.intro)<;>first | rfl | exact⟨_,rfl⟩ | exact⟨_,_,rfl⟩ | simp [AP,Bu]
  ·intro ex4 s4 hX4
   unfold Ep at hX4
   obtain⟨rfl,n4_0,n4_1⟩:=hX4
   obtain rfl:=Option.some.inj h
   simp (maxDischargeDepth:=9) only [↓AO,AB,Ac,BP,AJ,AQ,↓reduceIte,Nat.reduceEqDiff,Nat.reduceAdd,n4_0,n4_1]
noncomputable def CU(v_:Int)(i:Int)(c0_:List Int)(c1__0:List (List (Int×Int)))(c1__1:List Int)(c1__2:List Int):Option (Bool):=
 ck (0≤v_∧v_.toNat<c1__0.length)<|
 ck (0≤i∧i.toNat<(c1__0.getD v_.toNat default).length)<|
 ck (c0_.length<1099511627776)<|
 some (c0_.contains (BB (c1__0.getD v_.toNat default) i.toNat))
def k96:SC:=
 .seq
 (.ops [
 ⟨(some 6),(.assign (.const (.bool false))),4,none⟩])
 (.seq
 (.draws [
 (⟨[7,2,2],[7,8,9,10,11,12,13,14,15,16,17,6,17,17],[7]⟩,⟨(some 7),(.load 23 (.tmp 2)),23,none⟩),
 (⟨[8,3,3],[7,8,9,10,11,12,13,14,15,16,17,6,17,17],[8]⟩,⟨(some 8),(.fieldAddr 31 (.tmp 3) 0),0,none⟩),
 (⟨[9,8,3],[7,8,9,10,11,12,13,14,15,16,17,6,17,17],[9]⟩,⟨(some 9),(.load 29 (.tmp 8)),29,none⟩),
 (⟨[10,0,0],[7,8,9,10,11,12,13,14,15,16,17,6,17,17],[10]⟩,⟨(some 10),(.move (.tmp 0)),3,none⟩),
 (⟨[11,9,10,3,0],[7,8,9,10,11,12,13,14,15,16,17,6,17,17],[11]⟩,⟨(some 11),(.indexAddr 29 (.tmp 9) (.tmp 10)),0,none⟩),
 (⟨[12,11,3],[7,8,9,10,11,12,13,14,15,16,17,6,17,17],[12]⟩,⟨(some 12),(.load 100 (.tmp 11)),100,none⟩),
 (⟨[13,1,1],[7,8,9,10,11,12,13,14,15,16,17,6,17,17],[13]⟩,⟨(some 13),(.move (.tmp 1)),3,none⟩),
 (⟨[14,12,13,3,1],[7,8,9,10,11,12,13,14,15,16,17,6,17,17],[14]⟩,⟨(some 14),(.indexAddr 100 (.tmp 12) (.tmp 13)),0,none⟩),
 (⟨[15,14,3],[7,8,9,10,11,12,13,14,15,16,17,6,17,17],[15]⟩,⟨(some 15),(.fieldAddr 102 (.tmp 14) 0),0,none⟩),
 (⟨[16,15,3],[7,8,9,10,11,12,13,14,15,16,17,6,17,17],[16]⟩,⟨(some 16),(.load 3 (.tmp 15)),3,none⟩),
 (⟨[17,7,16,2,3],[7,8,9,10,11,12,13,14,15,16,17,6,17,17],[17]⟩,⟨(some 17),(.call ⟨(.value (.func 81)), #[(.tmp 7),(.tmp 16)], #[23,3]⟩),4,none⟩),
 (⟨[6,17,17],[7,8,9,10,11,12,13,14,15,16,17,6,17,17],[6,17,17]⟩,⟨(some 6),(.assign (.tmp 17)),4,none⟩)])
 .ret)
theorem A2V:Try.f96.body.map (Bh lends)=some k96:=by kernel_rfl
theorem AHO:CB Try.f96 4=true:=by kernel_rfl
theorem c96{a l:List D}{r:D×List D}(h:Bq Y.env k96 (fin AX l.length [ResultVar.tmp 6] r) (entry a l))(ha:a.length=4):Y.call 96 a l=some r:=
 AU (Y:=Y) rfl Try.func96 (ha▸AHO) A2V h
theorem Ka(v_:Int)(i:Int)(c0_:List Int)(c1__0:List (List (Int×Int)))(c1__1:List Int)(c1__2:List Int){r:Bool}(h:CU v_ i c0_ c1__0 c1__1 c1__2=some r):Y.call 96 [D.int .i64 v_,D.int .i64 i,D.cptr [D.sl 3 (AP (D.int .i64) c0_)],D.cptr [D.sl 100 (AP (fun x=>D.sl 102 (AY .i64 .i64 x)) c1__0),D.sl 3 (AP (D.int .i64) c1__1),D.sl 3 (AP (D.int .i64) c1__2)]] []=some (D.bool r,[]):=by
 refine c96 ?_ rfl
 unfold k96
 unfold CU at h
 obtain⟨e1,h⟩:=BF h
 obtain⟨e2,h⟩:=BF h
 obtain⟨e3,h⟩:=BF h
 have c4:=Jc c0_ (BB (c1__0.getD v_.toNat default) i.toNat) e3
 obtain rfl:=Option.some.inj h
 simp (maxDischargeDepth:=9) only [↓AO,AB,Ac,BP,AJ,AQ,↓reduceIte,Nat.reduceEqDiff,Nat.reduceLT,Nat.reduceAdd,e1.1,e1.2,e2.1,e2.2,c4]
noncomputable def Dc(AC:List (List (Int×Int)))(AV:List Int)(AL:List Int)(keep:List Int):Option ((List (List (Int×Int)))×(List Int)×(List Int)):=
 (Ig AC AV AL keep (fun a0 a1=>CU a0 a1 keep AC AV AL)).bind fun Il=>
 some (Il.1,Il.2.1,Il.2.2)
def k47:SC:=
 .seq
 (.ops [
 ⟨(some 2),(.box 31 (.tmp 0)),0,none⟩,
 ⟨(some 3),(.box 23 (.tmp 1)),0,none⟩,
 ⟨(some 4),(.alloc 31),0,none⟩])
 (.seq
 (.ops [
 ⟨(some 5),(.load 31 (.tmp 2)),31,none⟩,
 ⟨(some 6),(.load 23 (.tmp 3)),23,none⟩,
 ⟨(some 7),(.makeFunc (Fn.func 96) #[] #[(.tmp 3),(.tmp 2)]),105,none⟩,
 ⟨(some 8),(.call ⟨(.value (.func 95)), #[(.tmp 5),(.tmp 6),(.tmp 7)], #[31,23,105]⟩),31,none⟩,
 ⟨none,(.store 31 (.tmp 4) (.tmp 8)),0,none⟩])
 .ret)
theorem A2W:Try.f47.body.map (Bh lends)=some k47:=by kernel_rfl
theorem AHQ:CB Try.f47 2=true:=by kernel_rfl
theorem c47{a l:List D}{r:D×List D}(h:Bq Y.env k47 (fin AX l.length [ResultVar.cell 4 31] r) (entry a l))(ha:a.length=2):Y.call 47 a l=some r:=
 AU (Y:=Y) rfl Try.func47 (ha▸AHQ) A2W h
theorem LQ(AC:List (List (Int×Int)))(AV:List Int)(AL:List Int)(keep:List Int){r:(List (List (Int×Int)))×(List Int)×(List Int)}(h:Dc AC AV AL keep=some r):Y.call 47 [D.agg [D.sl 100 (AP (fun x=>D.sl 102 (AY .i64 .i64 x)) AC),D.sl 3 (AP (D.int .i64) AV),D.sl 3 (AP (D.int .i64) AL)],D.sl 3 (AP (D.int .i64) keep)] []=some (D.agg [D.own 100 (AP (fun x=>D.own 102 (AY .i64 .i64 x)) r.1),D.own 3 (AP (D.int .i64) r.2.1),D.own 3 (AP (D.int .i64) r.2.2)],[]):=by
 refine c47 ?_ rfl
 unfold k47
 unfold Dc at h
 obtain⟨Il,hl1,h⟩:=Ao h
 try dsimp only at h
 have c1:=Nk AC AV AL keep (fun a0 a1=>CU a0 a1 keep AC AV AL) 96 [D.cptr [D.sl 3 (AP (D.int .i64) keep)],D.cptr [D.sl 100 (AP (fun x=>D.sl 102 (AY .i64 .i64 x)) AC),D.sl 3 (AP (D.int .i64) AV),D.sl 3 (AP (D.int .i64) AL)]] (fun a0 a1 _ hh=>Ka a0 a1 keep AC AV AL hh) A1f hl1
 obtain rfl:=Option.some.inj h
 simp (maxDischargeDepth:=9) only [↓AO,AB,Ac,BP,AJ,AQ,↓reduceIte,Nat.reduceEqDiff,Nat.reduceLT,Nat.reduceAdd,c1]
noncomputable def J3(AC:List (List (Int×Int)))(AV:List Int)(AL:List Int)(v_:Int)(t_:Int):Option ((List (List (Int×Int)))×(List Int)×(List Int)×(List Int)×Bool):=
 (PL AC AV AL v_ t_).bind fun Il=>
 if Il.2=true then
  (Dc AC AV AL Il.1).bind fun FD=>
  some (FD.1,FD.2.1,FD.2.2,Il.1,true)
 else
  some ([],[],[],[],false)
def k16:SC:=
 .seq
 (.ops [
 ⟨(some 3),(.box 31 (.tmp 0)),0,none⟩,
 ⟨(some 6),(.alloc 31),0,none⟩,
 ⟨(some 7),(.assign (.const (.slice none 0 0))),23,none⟩,
 ⟨(some 8),(.assign (.const (.bool false))),4,none⟩])
 (.seq
 (.ops [
 ⟨(some 12),(.load 31 (.tmp 3)),31,none⟩,
 ⟨(some 13),(.move (.tmp 1)),3,none⟩,
 ⟨(some 14),(.move (.tmp 2)),3,none⟩,
 ⟨(some 15),(.call ⟨(.value (.func 46)), #[(.tmp 12),(.tmp 13),(.tmp 14)], #[31,3,3]⟩),48,none⟩,
 ⟨(some 11),(.move (.tmp 15)),48,none⟩,
 ⟨(some 16),(.extract (.tmp 11) 0),23,none⟩,
 ⟨(some 17),(.extract (.tmp 11) 1),4,none⟩,
 ⟨(some 9),(.assign (.tmp 16)),23,none⟩,
 ⟨(some 10),(.assign (.tmp 17)),4,none⟩])
 (.seq
 (.seq
 (.ops [
 ⟨(some 18),(.move (.tmp 10)),4,none⟩,
 ⟨(some 19),(.unOp .not 4 (.tmp 18)),4,none⟩])
 (.cond (.tmp 19)
 (.seq
 (.ops [
 ⟨(some 20),(.build 31 #[]),31,none⟩,
 ⟨none,(.store 31 (.tmp 6) (.tmp 20)),0,none⟩,
 ⟨(some 7),(.assign (.const (.slice none 0 0))),23,none⟩,
 ⟨(some 8),(.assign (.const (.bool false))),4,none⟩])
 .ret)
 .skip))
 (.seq
 (.ops [
 ⟨(some 21),(.load 31 (.tmp 3)),31,none⟩,
 ⟨(some 22),(.move (.tmp 9)),23,none⟩,
 ⟨(some 23),(.call ⟨(.value (.func 47)), #[(.tmp 21),(.tmp 22)], #[31,23]⟩),31,none⟩,
 ⟨(some 24),(.move (.tmp 9)),23,none⟩,
 ⟨none,(.store 31 (.tmp 6) (.tmp 23)),0,none⟩,
 ⟨(some 7),(.assign (.tmp 24)),23,none⟩,
 ⟨(some 8),(.assign (.const (.bool true))),4,none⟩])
 .ret)))
theorem A2X:Try.f16.body.map (Bh lends)=some k16:=by kernel_rfl
theorem AHS:CB Try.f16 3=true:=by kernel_rfl
theorem c16{a l:List D}{r:D×List D}(h:Bq Y.env k16 (fin AX l.length [ResultVar.cell 6 31,ResultVar.tmp 7,ResultVar.tmp 8] r) (entry a l))(ha:a.length=3):Y.call 16 a l=some r:=
 AU (Y:=Y) rfl Try.func16 (ha▸AHS) A2X h
theorem Jr(AC:List (List (Int×Int)))(AV:List Int)(AL:List Int)(v_:Int)(t_:Int){r:(List (List (Int×Int)))×(List Int)×(List Int)×(List Int)×Bool}(h:J3 AC AV AL v_ t_=some r):Y.call 16 [D.agg [D.sl 100 (AP (fun x=>D.sl 102 (AY .i64 .i64 x)) AC),D.sl 3 (AP (D.int .i64) AV),D.sl 3 (AP (D.int .i64) AL)],D.int .i64 v_,D.int .i64 t_] []=some (D.tup [D.agg [D.own 100 (AP (fun x=>D.own 102 (AY .i64 .i64 x)) r.1),D.own 3 (AP (D.int .i64) r.2.1),D.own 3 (AP (D.int .i64) r.2.2.1)],D.own 3 (AP (D.int .i64) r.2.2.2.1),D.bool r.2.2.2.2],[]):=by
 refine c16 ?_ rfl
 unfold k16
 unfold J3 at h
 obtain⟨Il,hl1,h⟩:=Ao h
 try dsimp only at h
 have c1:=Ub AC AV AL v_ t_ hl1
 by_cases e2:Il.2=true
 ·rw [if_pos e2]at h
  obtain⟨FD,hl3,h⟩:=Ao h
  try dsimp only at h
  have c3:=LQ AC AV AL Il.1 hl3
  obtain rfl:=Option.some.inj h
  simp (maxDischargeDepth:=9) only [↓AO,AB,Ac,BP,AJ,AQ,↓reduceIte,Nat.reduceEqDiff,Nat.reduceLT,Nat.reduceAdd,c1,e2,c3]
 ·rw [if_neg e2]at h
  have e2f:Il.2=false:=Bool.eq_false_iff.mpr e2
  obtain rfl:=Option.some.inj h
  simp (maxDischargeDepth:=9) only [↓AO,AB,Ac,BP,AJ,AQ,↓reduceIte,Nat.reduceEqDiff,Nat.reduceLT,Nat.reduceAdd,c1,e2f]<;>(repeat' apply And.intro)<;>first | rfl | exact⟨_,rfl⟩ | exact⟨_,_,rfl⟩ | simp [AP,Bu]
noncomputable def PN(AC:List (List (Int×Int)))(AV:List Int)(AL:List Int)(v_:Int):Option (Bool):=
 ck (BX AC)<|
 ck (AV.length<1099511627776)<|
 ck (AL.length<1099511627776)<|
 if(Eg AC AV AL)=true then
  some (Gq v_ (0:Int) (IntKind.i64.wrap ((AC.length:Int)-1)))
 else
  some false
def k42:SC:=
 .seq
 (.ops [
 ⟨(some 2),(.box 31 (.tmp 0)),0,none⟩,
 ⟨(some 4),(.assign (.const (.bool false))),4,none⟩])
 (.seq
 (.ops [
 ⟨(some 5),(.load 31 (.tmp 2)),31,none⟩,
 ⟨(some 6),(.call ⟨(.value (.func 33)), #[(.tmp 5)], #[31]⟩),4,none⟩,
 ⟨(some 7),(.move (.tmp 6)),4,none⟩,
 ⟨(some 8),(.move (.tmp 1)),3,(some (some 7,true))⟩,
 ⟨(some 9),(.fieldAddr 31 (.tmp 2) 0),0,(some (some 7,true))⟩,
 ⟨(some 10),(.load 29 (.tmp 9)),29,(some (some 7,true))⟩,
 ⟨(some 11),(.call ⟨(.builtin .len), #[(.tmp 10)], #[29]⟩),3,(some (some 7,true))⟩,
 ⟨(some 12),(.binOp .sub 3 (.tmp 11) (.const (.int .i64 1)) 3),3,(some (some 7,true))⟩,
 ⟨(some 13),(.call ⟨(.value (.func 43)), #[(.tmp 8),(.const (.int .i64 0)),(.tmp 12)], #[3,3,3]⟩),4,(some (some 7,true))⟩,
 ⟨(some 14),(.pick (.tmp 7) (.tmp 13) (.const (.bool false))),4,none⟩,
 ⟨(some 4),(.assign (.tmp 14)),4,none⟩])
 .ret)
theorem A2Y:Try.f42.body.map (Bh lends)=some k42:=by kernel_rfl
theorem AHU:CB Try.f42 2=true:=by kernel_rfl
theorem c42{a l:List D}{r:D×List D}(h:Bq Y.env k42 (fin AX l.length [ResultVar.tmp 4] r) (entry a l))(ha:a.length=2):Y.call 42 a l=some r:=
 AU (Y:=Y) rfl Try.func42 (ha▸AHU) A2Y h
theorem Uc(AC:List (List (Int×Int)))(AV:List Int)(AL:List Int)(v_:Int){r:Bool}(h:PN AC AV AL v_=some r):Y.call 42 [D.agg [D.sl 100 (AP (fun x=>D.sl 102 (AY .i64 .i64 x)) AC),D.sl 3 (AP (D.int .i64) AV),D.sl 3 (AP (D.int .i64) AL)],D.int .i64 v_] []=some (D.bool r,[]):=by
 refine c42 ?_ rfl
 unfold k42
 unfold PN at h
 obtain⟨e1,h⟩:=BF h
 obtain⟨e2,h⟩:=BF h
 obtain⟨e3,h⟩:=BF h
 have c4:=ZW AC AV AL e1 e2 e3
 by_cases e5:(Eg AC AV AL)=true
 ·rw [if_pos e5]at h
  have c6:=Iy v_ (0:Int) (IntKind.i64.wrap ((AC.length:Int)-1))
  obtain rfl:=Option.some.inj h
  simp (maxDischargeDepth:=9) only [↓AO,AB,Ac,BP,AJ,AQ,↓reduceIte,Nat.reduceEqDiff,Nat.reduceLT,Nat.reduceAdd,c4,e5,c6]
 ·rw [if_neg e5]at h
  have e5f:(Eg AC AV AL)=false:=Bool.eq_false_iff.mpr e5
  obtain rfl:=Option.some.inj h
  simp (maxDischargeDepth:=9) only [↓AO,AB,BP,AJ,AQ,↓reduceIte,Nat.reduceEqDiff,Nat.reduceLT,Nat.reduceAdd,c4,e5f]
noncomputable def H7(l:List Int)(n_:Int)(k:Int):Option ((Int)⊕(Int)):=
 if k<(l.length:Int)then
  ck (0≤k∧k.toNat<l.length)<|
  if(l.getD k.toNat default)<n_ then
   some (Sum.inl (IntKind.i64.wrap (k+1)))
  else
   some (Sum.inr k)
 else
  some (Sum.inr k)
noncomputable def Kb(l:List Int)(n_:Int)(v:Int):Option (Int):=Hy (fun v=>H7 l n_ v) v
noncomputable def Ng(l:List Int)(n_:Int):Option (((List Int))⊕((List Int))):=
 (Kb l n_ 0).bind fun Be=>
 if Be<(l.length:Int)then
  ck (0≤Be∧Be.toNat<l.length)<|
  if(l.getD Be.toNat default)=n_ then
   some (Sum.inl l)
  else
   ck (0≤Be)<|
   ck (Be.toNat≤l.length)<|
   ck (0+((l.take Be.toNat).drop 0).length<1099511627776)<|
   ck (((l.take Be.toNat).drop 0).length+1<1099511627776)<|
   ck ((((l.take Be.toNat).drop 0)++[n_]).length+((l.take l.length).drop Be.toNat).length<1099511627776)<|
   some (Sum.inr ((((l.take Be.toNat).drop 0)++[n_])++((l.take l.length).drop Be.toNat)))
 else
  ck (0≤Be)<|
  ck (Be.toNat≤l.length)<|
  ck (0+((l.take Be.toNat).drop 0).length<1099511627776)<|
  ck (((l.take Be.toNat).drop 0).length+1<1099511627776)<|
  ck ((((l.take Be.toNat).drop 0)++[n_]).length+((l.take l.length).drop Be.toNat).length<1099511627776)<|
  some (Sum.inr ((((l.take Be.toNat).drop 0)++[n_])++((l.take l.length).drop Be.toNat)))
def XN:SC:=
 .seq
 (.seq
 (.ops [
 ⟨(some 7),(.move (.tmp 5)),3,none⟩,
 ⟨(some 8),(.move (.tmp 0)),23,none⟩,
 ⟨(some 9),(.call ⟨(.builtin .len), #[(.tmp 8)], #[23]⟩),3,none⟩,
 ⟨(some 10),(.binOp .lss 3 (.tmp 7) (.tmp 9) 3),4,none⟩,
 ⟨(some 11),(.move (.tmp 10)),4,none⟩,
 ⟨(some 12),(.move (.tmp 0)),23,(some (some 11,true))⟩,
 ⟨(some 13),(.move (.tmp 5)),3,(some (some 11,true))⟩,
 ⟨(some 14),(.indexAddr 23 (.tmp 12) (.tmp 13)),0,(some (some 11,true))⟩,
 ⟨(some 15),(.load 3 (.tmp 14)),3,(some (some 11,true))⟩,
 ⟨(some 16),(.move (.tmp 1)),3,(some (some 11,true))⟩,
 ⟨(some 17),(.binOp .lss 3 (.tmp 15) (.tmp 16) 3),4,(some (some 11,true))⟩,
 ⟨(some 18),(.pick (.tmp 11) (.tmp 17) (.const (.bool false))),4,none⟩])
 (.cond (.tmp 18)
 .skip
 (.exit 0)))
 (.block 1
 (.ops [
 ⟨(some 19),(.move (.tmp 5)),3,none⟩,
 ⟨(some 20),(.binOp .add 3 (.tmp 19) (.const (.int .i64 1)) 3),3,none⟩,
 ⟨(some 5),(.assign (.tmp 20)),3,none⟩]))
def nU:SC:= .loop XN
def k90:SC:=
 .seq
 (.ops [
 ⟨(some 4),(.assign (.const (.slice none 0 0))),23,none⟩])
 (.seq
 (.ops [
 ⟨(some 5),(.assign (.const (.int .i64 0))),3,none⟩])
 (.seq
 (.block 0
 nU)
 (.seq
 (.seq
 (.ops [
 ⟨(some 21),(.move (.tmp 5)),3,none⟩,
 ⟨(some 22),(.move (.tmp 0)),23,none⟩,
 ⟨(some 23),(.call ⟨(.builtin .len), #[(.tmp 22)], #[23]⟩),3,none⟩,
 ⟨(some 24),(.binOp .lss 3 (.tmp 21) (.tmp 23) 3),4,none⟩,
 ⟨(some 25),(.move (.tmp 24)),4,none⟩,
 ⟨(some 26),(.move (.tmp 0)),23,(some (some 25,true))⟩,
 ⟨(some 27),(.move (.tmp 5)),3,(some (some 25,true))⟩,
 ⟨(some 28),(.indexAddr 23 (.tmp 26) (.tmp 27)),0,(some (some 25,true))⟩,
 ⟨(some 29),(.load 3 (.tmp 28)),3,(some (some 25,true))⟩,
 ⟨(some 30),(.move (.tmp 1)),3,(some (some 25,true))⟩,
 ⟨(some 31),(.binOp .eql 3 (.tmp 29) (.tmp 30) 3),4,(some (some 25,true))⟩,
 ⟨(some 32),(.pick (.tmp 25) (.tmp 31) (.const (.bool false))),4,none⟩])
 (.cond (.tmp 32)
 (.seq
 (.ops [
 ⟨(some 33),(.move (.tmp 0)),23,none⟩,
 ⟨(some 4),(.assign (.tmp 33)),23,none⟩])
 .ret)
 .skip))
 (.seq
 (.ops [
 ⟨(some 34),(.buildSlice 23 0 #[]),23,none⟩,
 ⟨(some 35),(.move (.tmp 0)),23,none⟩,
 ⟨(some 36),(.move (.tmp 5)),3,none⟩,
 ⟨(some 37),(.slice 23 (.tmp 35) none (some (.tmp 36)) none),23,none⟩,
 ⟨(some 38),(.call ⟨(.builtin .append), #[(.tmp 34),(.tmp 37)], #[23,23]⟩),23,none⟩,
 ⟨(some 6),(.assign (.tmp 38)),23,none⟩])
 (.seq
 (.ops [
 ⟨(some 39),(.move (.tmp 6)),23,none⟩,
 ⟨(some 40),(.move (.tmp 1)),3,none⟩,
 ⟨(some 41),(.buildSlice 23 1 #[(0,(.tmp 40))]),23,none⟩,
 ⟨(some 42),(.call ⟨(.builtin .append), #[(.tmp 39),(.tmp 41)], #[23,23]⟩),23,none⟩,
 ⟨(some 6),(.assign (.tmp 42)),23,none⟩])
 (.seq
 (.ops [
 ⟨(some 43),(.move (.tmp 6)),23,none⟩,
 ⟨(some 44),(.move (.tmp 0)),23,none⟩,
 ⟨(some 45),(.move (.tmp 5)),3,none⟩,
 ⟨(some 46),(.slice 23 (.tmp 44) (some (.tmp 45)) none none),23,none⟩,
 ⟨(some 47),(.call ⟨(.builtin .append), #[(.tmp 43),(.tmp 46)], #[23,23]⟩),23,none⟩,
 ⟨(some 4),(.assign (.tmp 47)),23,none⟩])
 .ret))))))
theorem A2Z:Try.f90.body.map (Bh lends)=some k90:=by kernel_rfl
theorem AHW:CB Try.f90 2=true:=by kernel_rfl
theorem c90{a l:List D}{r:D×List D}(h:Bq Y.env k90 (fin AX l.length [ResultVar.tmp 4] r) (entry a l))(ha:a.length=2):Y.call 90 a l=some r:=
 AU (Y:=Y) rfl Try.func90 (ha▸AHW) A2Z h
def FQ(l:List Int)(n_:Int)(k:Int)(s:St):Prop:=s.v 0=D.sl 3 (AP (D.int .i64) l)∧s.v 1=D.int .i64 n_∧s.v 5=D.int .i64 k
def Ih(l:List Int)(n_:Int)(r:Int)(ex:Ex)(s:St):Prop:=ex= .exit 0∧s.v 0=D.sl 3 (AP (D.int .i64) l)∧s.v 1=D.int .i64 n_∧s.v 5=D.int .i64 r
theorem Ud(l:List Int)(n_:Int){v:Int}{s:St}{r:Int}(h:Kb l n_ v=some r)(hM:FQ l n_ v s):Bq Y.env nU (Ih l n_ r) s:=by
 unfold Kb at h
 refine BN (c:=XN) (fun v=>H7 l n_ v) (fun v s=>FQ l n_ v s) (Ih l n_) ?_ h hM
 clear h hM s v r
 intro k s o hM h
 unfold H7 at h
 unfold FQ at hM
 obtain⟨m0,m1,m2⟩:=hM
 unfold XN
 by_cases e1:k<(l.length:Int)
 ·rw [if_pos e1]at h
  obtain⟨e2,h⟩:=BF h
  by_cases e3:(l.getD k.toNat default)<n_
  ·rw [if_pos e3]at h
   obtain rfl:=Option.some.inj h
   simp (maxDischargeDepth:=9) only [↓AO,AB,Ac,AJ,AQ,↓reduceIte,Nat.reduceEqDiff,Nat.reduceLT,m0,m1,m2,e1,e2.1,e2.2,e3,FQ,Ik]
  ·rw [if_neg e3]at h
   obtain rfl:=Option.some.inj h
   simp (maxDischargeDepth:=9) only [↓AO,AB,Ac,AJ,AQ,↓reduceIte,Nat.reduceEqDiff,Nat.reduceLT,m0,m1,m2,e1,e2.1,e2.2,e3,FQ,Ih,KF]
 ·rw [if_neg e1]at h
  obtain rfl:=Option.some.inj h
  simp (maxDischargeDepth:=9) only [↓AO,AB,Ac,AQ,↓reduceIte,Nat.reduceEqDiff,Nat.reduceLT,m0,m1,m2,e1,FQ,Ih,KF]
theorem XO(l:List Int)(n_:Int){r:((List Int))⊕((List Int))}(h:Ng l n_=some r):Y.call 90 [D.sl 3 (AP (D.int .i64) l),D.int .i64 n_] []=some (match (generalizing:=false) r with | .inl q=>(D.sl 3 (AP (D.int .i64) q),[]) | .inr q=>(D.own 3 (AP (D.int .i64) q),[])):=by
 refine c90 ?_ rfl
 unfold k90
 unfold Ng at h
 obtain⟨Be,hl2,h⟩:=Ao h
 try dsimp only at h
 simp (maxDischargeDepth:=9) only [↓AO,AB,AJ,AQ,↓reduceIte,Nat.reduceEqDiff,Nat.reduceLT]
 refine Ay (Ud l n_ hl2 ?_) ?_
 ·simp (maxDischargeDepth:=9) only [AB,AJ,↓reduceIte,Nat.reduceEqDiff,Nat.reduceLT,FQ]
 ·intro ex2 s2 hX2
  unfold Ih at hX2
  obtain⟨rfl,n2_0,n2_1,n2_2⟩:=hX2
  by_cases e3:Be<(l.length:Int)
  ·rw [if_pos e3]at h
   obtain⟨e4,h⟩:=BF h
   by_cases e5:(l.getD Be.toNat default)=n_
   ·rw [if_pos e5]at h
    obtain rfl:=Option.some.inj h
    simp (maxDischargeDepth:=9) only [↓AO,AB,Ac,AJ,AQ,↓reduceIte,Nat.reduceEqDiff,Nat.reduceLT,n2_0,n2_1,n2_2,e3,e4.1,e4.2,decide_eq_true e5]
   ·rw [if_neg e5]at h
    obtain⟨e6,h⟩:=BF h
    obtain⟨e7,h⟩:=BF h
    obtain⟨e8,h⟩:=BF h
    obtain⟨e9,h⟩:=BF h
    obtain⟨e10,h⟩:=BF h
    obtain rfl:=Option.some.inj h
    simp (maxDischargeDepth:=9) only [↓AO,AB,Ac,AJ,AQ,↓reduceIte,Nat.reduceEqDiff,Nat.reduceLT,Nat.reduceLeDiff,Nat.reduceAdd,n2_0,n2_1,n2_2,e3,e4.1,e4.2,e5,e7,e8,e9,e10]
  ·rw [if_neg e3]at h
   obtain⟨e4,h⟩:=BF h
   obtain⟨e5,h⟩:=BF h
   obtain⟨e6,h⟩:=BF h
   obtain⟨e7,h⟩:=BF h
   obtain⟨e8,h⟩:=BF h
   obtain rfl:=Option.some.inj h
   simp (maxDischargeDepth:=9) only [↓AO,AB,Ac,AJ,AQ,↓reduceIte,Nat.reduceEqDiff,Nat.reduceLT,Nat.reduceLeDiff,Nat.reduceAdd,n2_0,n2_1,n2_2,e3,e4,e5,e6,e7,e8]
noncomputable def G7(AC:List (List (Int×Int)))(AV:List Int)(AL:List Int)(t_1:Int)(Be:(List Int))(Cj:Int)(Ej:(List Int))(ball2:List Int)(Jg:Int):Option (((List Int)×Int)⊕((List Int))):=
 if Jg<(Ej.length:Int)then
  ck (0≤Jg∧Jg.toNat<Ej.length)<|
  (Ng ball2 (Ej.getD Jg.toNat default)).bind fun j4=>
  match j4 with
  | .inl q8_=>
   some (Sum.inl (q8_,IntKind.i64.wrap (Jg+1)))
  | .inr q8_=>
   some (Sum.inl (q8_,IntKind.i64.wrap (Jg+1)))
 else
  some (Sum.inr ball2)
noncomputable def Ji(AC:List (List (Int×Int)))(AV:List Int)(AL:List Int)(t_1:Int)(Be:(List Int))(Cj:Int)(Ej:(List Int))(v:(List Int)×Int):Option ((List Int)):=Hy (fun v=>G7 AC AV AL t_1 Be Cj Ej v.1 v.2) v
noncomputable def G8(AC:List (List (Int×Int)))(AV:List Int)(AL:List Int)(t_1:Int)(Be:(List Int))(ball1:List Int)(Cj:Int):Option (((List Int)×Int)⊕((List Int))):=
 if Cj<(Be.length:Int)then
  ck (0≤Cj∧Cj.toNat<Be.length)<|
  (NJ AC AV AL (Be.getD Cj.toNat default)).bind fun Ej=>
  (Ji AC AV AL t_1 Be Cj Ej (ball1,0)).bind fun KZ=>
  some (Sum.inl (KZ,IntKind.i64.wrap (Cj+1)))
 else
  some (Sum.inr ball1)
noncomputable def Jj(AC:List (List (Int×Int)))(AV:List Int)(AL:List Int)(t_1:Int)(Be:(List Int))(v:(List Int)×Int):Option ((List Int)):=Hy (fun v=>G8 AC AV AL t_1 Be v.1 v.2) v
noncomputable def I9(AC:List (List (Int×Int)))(AV:List Int)(AL:List Int)(t_1:Int)(ball:List Int):Option ((Int×(List Int))⊕((List Int))):=
 if 0<t_1 then
  (MG ball).bind fun Be=>
  (Jj AC AV AL t_1 Be (ball,0)).bind fun Cu=>
  some (Sum.inl (IntKind.i64.wrap (t_1-1),Cu))
 else
  some (Sum.inr ball)
noncomputable def LD(AC:List (List (Int×Int)))(AV:List Int)(AL:List Int)(v:Int×(List Int)):Option ((List Int)):=Hy (fun v=>I9 AC AV AL v.1 v.2) v
noncomputable def NP(AC:List (List (Int×Int)))(AV:List Int)(AL:List Int)(v_:Int)(t_:Int):Option ((List Int)):=
 (LD AC AV AL (t_,[v_])).bind fun Be=>
 some Be
def XP:SC:=
 .seq
 (.ops [
 ⟨(some 30),(.binOp .lss 3 (.tmp 29) (.tmp 28) 3),0,none⟩])
 (.seq
 (.cond (.tmp 30)
 .skip
 (.exit 4))
 (.seq
 (.block 5
 (.seq
 (.ops [
 ⟨(some 31),(.indexAddr 23 (.tmp 27) (.tmp 29)),0,none⟩,
 ⟨(some 32),(.load 3 (.tmp 31)),3,none⟩,
 ⟨(some 11),(.assign (.tmp 32)),3,none⟩])
 (.ops [
 ⟨(some 33),(.move (.tmp 7)),23,none⟩,
 ⟨(some 34),(.move (.tmp 11)),3,none⟩,
 ⟨(some 35),(.call ⟨(.value (.func 90)), #[(.tmp 33),(.tmp 34)], #[23,3]⟩),23,none⟩,
 ⟨(some 7),(.assign (.tmp 35)),900003,none⟩])))
 (.ops [
 ⟨(some 36),(.binOp .add 3 (.tmp 29) (.const (.int .i64 1)) 3),3,none⟩,
 ⟨(some 29),(.move (.tmp 36)),3,none⟩])))
def nV:SC:= .loop XP
def XQ:SC:=
 .seq
 (.ops [
 ⟨(some 22),(.binOp .lss 3 (.tmp 21) (.tmp 20) 3),0,none⟩])
 (.seq
 (.cond (.tmp 22)
 .skip
 (.exit 2))
 (.seq
 (.block 3
 (.seq
 (.ops [
 ⟨(some 23),(.indexAddr 23 (.tmp 19) (.tmp 21)),0,none⟩,
 ⟨(some 24),(.load 3 (.tmp 23)),3,none⟩,
 ⟨(some 9),(.assign (.tmp 24)),3,none⟩])
 (.seq
 (.ops [
 ⟨(some 25),(.load 31 (.tmp 3)),31,none⟩,
 ⟨(some 26),(.move (.tmp 9)),3,none⟩,
 ⟨(some 27),(.call ⟨(.value (.func 89)), #[(.tmp 25),(.tmp 26)], #[31,3]⟩),23,none⟩,
 ⟨(some 28),(.call ⟨(.builtin .len), #[(.tmp 27)], #[23]⟩),3,none⟩,
 ⟨(some 29),(.move (.const (.int .i64 0))),3,none⟩])
 (.block 4
 nV))))
 (.ops [
 ⟨(some 37),(.binOp .add 3 (.tmp 21) (.const (.int .i64 1)) 3),3,none⟩,
 ⟨(some 21),(.move (.tmp 37)),3,none⟩])))
def nW:SC:= .loop XQ
def XR:SC:=
 .seq
 (.seq
 (.ops [
 ⟨(some 14),(.move (.tmp 2)),3,none⟩,
 ⟨(some 15),(.binOp .gtr 3 (.tmp 14) (.const (.int .i64 0)) 3),4,none⟩])
 (.cond (.tmp 15)
 .skip
 (.exit 0)))
 (.seq
 (.block 1
 (.seq
 (.ops [
 ⟨(some 18),(.move (.tmp 7)),23,none⟩,
 ⟨(some 19),(.call ⟨(.value (.func 88)), #[(.tmp 18)], #[23]⟩),23,none⟩,
 ⟨(some 20),(.call ⟨(.builtin .len), #[(.tmp 19)], #[23]⟩),3,none⟩,
 ⟨(some 21),(.move (.const (.int .i64 0))),3,none⟩])
 (.block 2
 nW)))
 (.ops [
 ⟨(some 16),(.move (.tmp 2)),3,none⟩,
 ⟨(some 17),(.binOp .sub 3 (.tmp 16) (.const (.int .i64 1)) 3),3,none⟩,
 ⟨(some 2),(.assign (.tmp 17)),3,none⟩]))
def nX:SC:= .loop XR
def k44:SC:=
 .seq
 (.ops [
 ⟨(some 3),(.box 31 (.tmp 0)),0,none⟩,
 ⟨(some 6),(.assign (.const (.slice none 0 0))),23,none⟩])
 (.seq
 (.ops [
 ⟨(some 12),(.move (.tmp 1)),3,none⟩,
 ⟨(some 13),(.buildSlice 23 1 #[(0,(.tmp 12))]),23,none⟩,
 ⟨(some 7),(.assign (.tmp 13)),900003,none⟩])
 (.seq
 (.block 0
 nX)
 (.seq
 (.ops [
 ⟨(some 38),(.move (.tmp 7)),23,none⟩,
 ⟨(some 6),(.assign (.tmp 38)),23,none⟩])
 .ret)))
theorem A2a:Try.f44.body.map (Bh lends)=some k44:=by kernel_rfl
theorem AHY:CB Try.f44 3=true:=by kernel_rfl
theorem dG{a l:List D}{r:D×List D}(h:Bq Y.env k44 (fin AX l.length [ResultVar.tmp 6] r) (entry a l))(ha:a.length=3):Y.call 44 a l=some r:=
 AU (Y:=Y) rfl Try.func44 (ha▸AHY) A2a h
def Ec(AC:List (List (Int×Int)))(AV:List Int)(AL:List Int)(t_1:Int)(Be:(List Int))(Cj:Int)(Ej:(List Int))(ball2:List Int)(Jg:Int)(s:St):Prop:=s.v 2=D.int .i64 t_1∧s.v 3=D.box [D.sl 100 (AP (fun x=>D.sl 102 (AY .i64 .i64 x)) AC),D.sl 3 (AP (D.int .i64) AV),D.sl 3 (AP (D.int .i64) AL)]∧s.v 7=D.sl 3 (AP (D.int .i64) ball2)∧s.v 19=D.own 3 (AP (D.int .i64) Be)∧s.v 20=D.int .i64 (Be.length:Int)∧s.v 21=D.int .i64 Cj∧s.v 27=D.own 3 (AP (D.int .i64) Ej)∧s.v 28=D.int .i64 (Ej.length:Int)∧s.v 29=D.int .i64 Jg
def JF(AC:List (List (Int×Int)))(AV:List Int)(AL:List Int)(t_1:Int)(Be:(List Int))(Cj:Int)(Ej:(List Int))(r:(List Int))(ex:Ex)(s:St):Prop:=ex= .exit 4∧s.v 2=D.int .i64 t_1∧s.v 3=D.box [D.sl 100 (AP (fun x=>D.sl 102 (AY .i64 .i64 x)) AC),D.sl 3 (AP (D.int .i64) AV),D.sl 3 (AP (D.int .i64) AL)]∧s.v 7=D.sl 3 (AP (D.int .i64) r)∧s.v 19=D.own 3 (AP (D.int .i64) Be)∧s.v 20=D.int .i64 (Be.length:Int)∧s.v 21=D.int .i64 Cj
theorem TV(AC:List (List (Int×Int)))(AV:List Int)(AL:List Int)(t_1:Int)(Be:(List Int))(Cj:Int)(Ej:(List Int)){v:(List Int)×Int}{s:St}{r:(List Int)}(h:Ji AC AV AL t_1 Be Cj Ej v=some r)(hM:Ec AC AV AL t_1 Be Cj Ej v.1 v.2 s):Bq Y.env nV (JF AC AV AL t_1 Be Cj Ej r) s:=by
 unfold Ji at h
 refine BN (c:=XP) (fun v=>G7 AC AV AL t_1 Be Cj Ej v.1 v.2) (fun v s=>Ec AC AV AL t_1 Be Cj Ej v.1 v.2 s) (JF AC AV AL t_1 Be Cj Ej) ?_ h hM
 clear h hM s v r
 intro v s o hM h
 obtain⟨ball2,Jg⟩:=v
 dsimp only at h hM
 unfold G7 at h
 unfold Ec at hM
 obtain⟨m0,m1,m2,m3,m4,m5,m6,m7,m8⟩:=hM
 unfold XP
 by_cases e6:Jg<(Ej.length:Int)
 ·rw [if_pos e6]at h
  obtain⟨e7,h⟩:=BF h
  obtain⟨j4,hl8,h⟩:=Ao h
  try dsimp only at h
  have c8:=XO ball2 (Ej.getD Jg.toNat default) hl8
  rcases j4 with q8_ | q8_
  ·dsimp only at h c8
   obtain rfl:=Option.some.inj h
   simp (maxDischargeDepth:=9) only [↓AO,AB,Ac,BP,AJ,AQ,↓reduceIte,Nat.reduceEqDiff,Nat.reduceLT,Nat.reduceAdd,m0,m1,m2,m3,m4,m5,m6,m7,m8,e6,e7.1,e7.2,c8,Ec,Ik]
  ·dsimp only at h c8
   obtain rfl:=Option.some.inj h
   simp (maxDischargeDepth:=9) only [↓AO,AB,Ac,BP,AJ,AQ,↓reduceIte,Nat.reduceEqDiff,Nat.reduceLT,Nat.reduceAdd,m0,m1,m2,m3,m4,m5,m6,m7,m8,e6,e7.1,e7.2,c8,Ec,Ik]
 ·rw [if_neg e6]at h
  obtain rfl:=Option.some.inj h
  simp (maxDischargeDepth:=9) only [↓AO,AB,AQ,↓reduceIte,Nat.reduceEqDiff,Nat.reduceLT,m0,m1,m2,m3,m4,m5,m7,m8,e6,Ec,JF,KF]
def G9(AC:List (List (Int×Int)))(AV:List Int)(AL:List Int)(t_1:Int)(Be:(List Int))(ball1:List Int)(Cj:Int)(s:St):Prop:=s.v 2=D.int .i64 t_1∧s.v 3=D.box [D.sl 100 (AP (fun x=>D.sl 102 (AY .i64 .i64 x)) AC),D.sl 3 (AP (D.int .i64) AV),D.sl 3 (AP (D.int .i64) AL)]∧s.v 7=D.sl 3 (AP (D.int .i64) ball1)∧s.v 19=D.own 3 (AP (D.int .i64) Be)∧s.v 20=D.int .i64 (Be.length:Int)∧s.v 21=D.int .i64 Cj
def JG(AC:List (List (Int×Int)))(AV:List Int)(AL:List Int)(t_1:Int)(Be:(List Int))(r:(List Int))(ex:Ex)(s:St):Prop:=ex= .exit 2∧s.v 2=D.int .i64 t_1∧s.v 3=D.box [D.sl 100 (AP (fun x=>D.sl 102 (AY .i64 .i64 x)) AC),D.sl 3 (AP (D.int .i64) AV),D.sl 3 (AP (D.int .i64) AL)]∧s.v 7=D.sl 3 (AP (D.int .i64) r)
theorem TW(AC:List (List (Int×Int)))(AV:List Int)(AL:List Int)(t_1:Int)(Be:(List Int)){v:(List Int)×Int}{s:St}{r:(List Int)}(h:Jj AC AV AL t_1 Be v=some r)(hM:G9 AC AV AL t_1 Be v.1 v.2 s):Bq Y.env nW (JG AC AV AL t_1 Be r) s:=by
 unfold Jj at h
 refine BN (c:=XQ) (fun v=>G8 AC AV AL t_1 Be v.1 v.2) (fun v s=>G9 AC AV AL t_1 Be v.1 v.2 s) (JG AC AV AL t_1 Be) ?_ h hM
 clear h hM s v r
 intro v s o hM h
 obtain⟨ball1,Cj⟩:=v
 dsimp only at h hM
 unfold G8 at h
 unfold G9 at hM
 obtain⟨m0,m1,m2,m3,m4,m5⟩:=hM
 unfold XQ
 by_cases e3:Cj<(Be.length:Int)
 ·rw [if_pos e3]at h
  obtain⟨e4,h⟩:=BF h
  obtain⟨Ej,hl5,h⟩:=Ao h
  try dsimp only at h
  have c5:=Ua AC AV AL (Be.getD Cj.toNat default) hl5
  obtain⟨KZ,hl7,h⟩:=Ao h
  try dsimp only at h
  simp (maxDischargeDepth:=9) only [↓AO,AB,Ac,BP,AJ,AQ,↓reduceIte,Nat.reduceEqDiff,Nat.reduceLT,Nat.reduceAdd,m1,m3,m4,m5,e3,e4.1,e4.2,c5]
  refine Ay (TV AC AV AL t_1 Be Cj Ej hl7 ?_) ?_
  ·simp (maxDischargeDepth:=9) only [AB,↓reduceIte,Nat.reduceEqDiff,m0,m1,m2,m3,m4,m5,Ec]
  ·intro ex7 s7 hX7
   unfold JF at hX7
   obtain⟨rfl,n7_0,n7_1,n7_2,n7_3,n7_4,n7_5⟩:=hX7
   obtain rfl:=Option.some.inj h
   simp (maxDischargeDepth:=9) only [↓AO,AB,AQ,↓reduceIte,Nat.reduceEqDiff,Nat.reduceLT,n7_0,n7_1,n7_2,n7_3,n7_4,n7_5,G9,Ik]
 ·rw [if_neg e3]at h
  obtain rfl:=Option.some.inj h
  simp (maxDischargeDepth:=9) only [↓AO,AB,AQ,↓reduceIte,Nat.reduceEqDiff,Nat.reduceLT,m0,m1,m2,m4,m5,e3,G9,JG,KF]
def GA(AC:List (List (Int×Int)))(AV:List Int)(AL:List Int)(t_1:Int)(ball:List Int)(s:St):Prop:=s.v 2=D.int .i64 t_1∧s.v 3=D.box [D.sl 100 (AP (fun x=>D.sl 102 (AY .i64 .i64 x)) AC),D.sl 3 (AP (D.int .i64) AV),D.sl 3 (AP (D.int .i64) AL)]∧s.v 7=D.sl 3 (AP (D.int .i64) ball)
def JH(AC:List (List (Int×Int)))(AV:List Int)(AL:List Int)(r:(List Int))(ex:Ex)(s:St):Prop:=ex= .exit 0∧s.v 7=D.sl 3 (AP (D.int .i64) r)
theorem TY(AC:List (List (Int×Int)))(AV:List Int)(AL:List Int){v:Int×(List Int)}{s:St}{r:(List Int)}(h:LD AC AV AL v=some r)(hM:GA AC AV AL v.1 v.2 s):Bq Y.env nX (JH AC AV AL r) s:=by
 unfold LD at h
 refine BN (c:=XR) (fun v=>I9 AC AV AL v.1 v.2) (fun v s=>GA AC AV AL v.1 v.2 s) (JH AC AV AL) ?_ h hM
 clear h hM s v r
 intro v s o hM h
 obtain⟨t_1,ball⟩:=v
 dsimp only at h hM
 unfold I9 at h
 unfold GA at hM
 obtain⟨m0,m1,m2⟩:=hM
 unfold XR
 by_cases e1:0<t_1
 ·rw [if_pos e1]at h
  obtain⟨Be,hl2,h⟩:=Ao h
  try dsimp only at h
  have c2:=MH ball hl2
  obtain⟨Cu,hl4,h⟩:=Ao h
  try dsimp only at h
  simp (maxDischargeDepth:=9) only [↓AO,AB,Ac,BP,AJ,AQ,↓reduceIte,Nat.reduceEqDiff,Nat.reduceLT,Nat.reduceAdd,m0,m2,e1,c2]
  refine Ay (TW AC AV AL t_1 Be hl4 ?_) ?_
  ·simp (maxDischargeDepth:=9) only [AB,↓reduceIte,Nat.reduceEqDiff,m0,m1,m2,G9]
  ·intro ex4 s4 hX4
   unfold JG at hX4
   obtain⟨rfl,n4_0,n4_1,n4_2⟩:=hX4
   obtain rfl:=Option.some.inj h
   simp (maxDischargeDepth:=9) only [↓AO,AB,AQ,↓reduceIte,Nat.reduceEqDiff,Nat.reduceLT,n4_0,n4_1,n4_2,GA,Ik]
 ·rw [if_neg e1]at h
  obtain rfl:=Option.some.inj h
  simp (maxDischargeDepth:=9) only [↓AO,AB,AQ,↓reduceIte,Nat.reduceEqDiff,Nat.reduceLT,m0,m2,e1,GA,JH,KF]
theorem Ue(AC:List (List (Int×Int)))(AV:List Int)(AL:List Int)(v_:Int)(t_:Int){r:(List Int)}(h:NP AC AV AL v_ t_=some r):Y.call 44 [D.agg [D.sl 100 (AP (fun x=>D.sl 102 (AY .i64 .i64 x)) AC),D.sl 3 (AP (D.int .i64) AV),D.sl 3 (AP (D.int .i64) AL)],D.int .i64 v_,D.int .i64 t_] []=some (D.sl 3 (AP (D.int .i64) r),[]):=by
 refine dG ?_ rfl
 unfold k44
 unfold NP at h
 obtain⟨Be,hl2,h⟩:=Ao h
 try dsimp only at h
 simp (maxDischargeDepth:=9) only [↓AO,AB,AJ,AQ,↓reduceIte,Nat.reduceEqDiff,Nat.reduceLT,Nat.reduceLeDiff,Nat.reduceAdd]
 refine Ay (TY AC AV AL hl2 ?_) ?_
 ·simp (maxDischargeDepth:=9) only [AB,AJ,↓reduceIte,Nat.reduceEqDiff,Nat.reduceLT,GA]<;>(repeat' apply And.intro)<;>first | rfl | exact⟨_,rfl⟩ | exact⟨_,_,rfl⟩ | simp [AP,Bu]
 ·intro ex2 s2 hX2
  unfold JH at hX2
  obtain⟨rfl,n2_0⟩:=hX2
  obtain rfl:=Option.some.inj h
  simp (maxDischargeDepth:=9) only [↓AO,AB,AJ,↓reduceIte,Nat.reduceEqDiff,Nat.reduceLT,n2_0]
noncomputable def H8(AC:List (List (Int×Int)))(out:List (List Bool))(Bn:Int)(l:List Bool)(XT:Int):Option (((List Bool)×Int)⊕((List Bool))):=
 if XT<((List.replicate (AC.getD Bn.toNat default).length false).length:Int)then
  ck (0≤XT∧XT.toNat<l.length)<|
  some (Sum.inl ((l.set XT.toNat true),IntKind.i64.wrap (XT+1)))
 else
  some (Sum.inr l)
noncomputable def Kc(AC:List (List (Int×Int)))(out:List (List Bool))(Bn:Int)(v:(List Bool)×Int):Option ((List Bool)):=Hy (fun v=>H8 AC out Bn v.1 v.2) v
noncomputable def H9(AC:List (List (Int×Int)))(out:List (List Bool))(Bn:Int):Option (((List (List Bool))×Int)⊕((List (List Bool)))):=
 if Bn<(AC.length:Int)then
  ck (0≤Bn∧Bn.toNat<AC.length)<|
  ck (0≤((AC.getD Bn.toNat default).length:Int)∧((AC.getD Bn.toNat default).length:Int)<1099511627776)<|
  (Kc AC out Bn ((List.replicate (AC.getD Bn.toNat default).length false),0)).bind fun Ej=>
  ck (out.length+1<1099511627776)<|
  some (Sum.inl ((out++[Ej]),IntKind.i64.wrap (Bn+1)))
 else
  some (Sum.inr out)
noncomputable def J4(AC:List (List (Int×Int)))(v:(List (List Bool))×Int):Option ((List (List Bool))):=Hy (fun v=>H9 AC v.1 v.2) v
noncomputable def PO(AC:List (List (Int×Int)))(AV:List Int)(AL:List Int):Option ((List (List Bool))):=
 (J4 AC ([],0)).bind fun Be=>
 some Be
def XU:SC:=
 .seq
 (.ops [
 ⟨(some 21),(.binOp .lss 3 (.tmp 20) (.tmp 19) 3),0,none⟩])
 (.seq
 (.cond (.tmp 21)
 .skip
 (.exit 2))
 (.seq
 (.block 3
 (.seq
 (.ops [
 ⟨(some 22),(.move (.tmp 20)),3,none⟩,
 ⟨(some 7),(.assign (.tmp 22)),3,none⟩])
 (.ops [
 ⟨(some 23),(.move (.tmp 6)),113,none⟩,
 ⟨(some 24),(.move (.tmp 7)),3,none⟩,
 ⟨(some 25),(.indexAddr 113 (.tmp 23) (.tmp 24)),0,none⟩,
 ⟨none,(.store 4 (.tmp 25) (.const (.bool true))),0,none⟩])))
 (.ops [
 ⟨(some 26),(.binOp .add 3 (.tmp 20) (.const (.int .i64 1)) 3),3,none⟩,
 ⟨(some 20),(.move (.tmp 26)),3,none⟩])))
def nY:SC:= .loop XU
def XV:SC:=
 .seq
 (.ops [
 ⟨(some 12),(.binOp .lss 3 (.tmp 11) (.tmp 10) 3),0,none⟩])
 (.seq
 (.cond (.tmp 12)
 .skip
 (.exit 0))
 (.seq
 (.block 1
 (.seq
 (.ops [
 ⟨(some 13),(.indexAddr 29 (.tmp 9) (.tmp 11)),0,none⟩,
 ⟨(some 14),(.load 100 (.tmp 13)),100,none⟩,
 ⟨(some 5),(.assign (.tmp 14)),100,none⟩])
 (.seq
 (.ops [
 ⟨(some 15),(.move (.tmp 5)),100,none⟩,
 ⟨(some 16),(.call ⟨(.builtin .len), #[(.tmp 15)], #[100]⟩),3,none⟩,
 ⟨(some 17),(.makeSlice 113 (.tmp 16) (.tmp 16)),113,none⟩,
 ⟨(some 6),(.assign (.tmp 17)),113,none⟩])
 (.seq
 (.seq
 (.ops [
 ⟨(some 18),(.move (.tmp 6)),113,none⟩,
 ⟨(some 19),(.call ⟨(.builtin .len), #[(.tmp 18)], #[113]⟩),3,none⟩,
 ⟨(some 20),(.move (.const (.int .i64 0))),3,none⟩])
 (.block 2
 nY))
 (.ops [
 ⟨(some 27),(.move (.tmp 3)),111,none⟩,
 ⟨(some 28),(.move (.tmp 6)),113,none⟩,
 ⟨(some 29),(.buildSlice 111 1 #[(0,(.tmp 28))]),111,none⟩,
 ⟨(some 30),(.call ⟨(.builtin .append), #[(.tmp 27),(.tmp 29)], #[111,111]⟩),111,none⟩,
 ⟨(some 3),(.assign (.tmp 30)),111,none⟩])))))
 (.ops [
 ⟨(some 31),(.binOp .add 3 (.tmp 11) (.const (.int .i64 1)) 3),3,none⟩,
 ⟨(some 11),(.move (.tmp 31)),3,none⟩])))
def nZ:SC:= .loop XV
def k91:SC:=
 .seq
 (.ops [
 ⟨(some 1),(.box 31 (.tmp 0)),0,none⟩,
 ⟨(some 2),(.assign (.const (.slice none 0 0))),111,none⟩])
 (.seq
 (.ops [
 ⟨(some 3),(.assign (.const (.slice none 0 0))),111,none⟩])
 (.seq
 (.seq
 (.ops [
 ⟨(some 8),(.fieldAddr 31 (.tmp 1) 0),0,none⟩,
 ⟨(some 9),(.load 29 (.tmp 8)),29,none⟩,
 ⟨(some 10),(.call ⟨(.builtin .len), #[(.tmp 9)], #[29]⟩),3,none⟩,
 ⟨(some 11),(.move (.const (.int .i64 0))),3,none⟩])
 (.block 0
 nZ))
 (.seq
 (.ops [
 ⟨(some 32),(.move (.tmp 3)),111,none⟩,
 ⟨(some 2),(.assign (.tmp 32)),111,none⟩])
 .ret)))
theorem A2b:Try.f91.body.map (Bh lends)=some k91:=by kernel_rfl
theorem AHa:CB Try.f91 1=true:=by kernel_rfl
theorem c91{a l:List D}{r:D×List D}(h:Bq Y.env k91 (fin AX l.length [ResultVar.tmp 2] r) (entry a l))(ha:a.length=1):Y.call 91 a l=some r:=
 AU (Y:=Y) rfl Try.func91 (ha▸AHa) A2b h
def HV(AC:List (List (Int×Int)))(out:List (List Bool))(Bn:Int)(l:List Bool)(XT:Int)(s:St):Prop:=s.v 3=D.own 113 (AP (fun x=>D.own 4 (AP D.bool x)) out)∧s.v 6=D.own 4 (AP D.bool l)∧s.v 9=D.sl 100 (AP (fun x=>D.sl 102 (AY .i64 .i64 x)) AC)∧s.v 10=D.int .i64 (AC.length:Int)∧s.v 11=D.int .i64 Bn∧s.v 19=D.int .i64 ((List.replicate (AC.getD Bn.toNat default).length false).length:Int)∧s.v 20=D.int .i64 XT
def K4(AC:List (List (Int×Int)))(out:List (List Bool))(Bn:Int)(r:(List Bool))(ex:Ex)(s:St):Prop:=ex= .exit 2∧s.v 3=D.own 113 (AP (fun x=>D.own 4 (AP D.bool x)) out)∧s.v 6=D.own 4 (AP D.bool r)∧s.v 9=D.sl 100 (AP (fun x=>D.sl 102 (AY .i64 .i64 x)) AC)∧s.v 10=D.int .i64 (AC.length:Int)∧s.v 11=D.int .i64 Bn
theorem Uf(AC:List (List (Int×Int)))(out:List (List Bool))(Bn:Int){v:(List Bool)×Int}{s:St}{r:(List Bool)}(h:Kc AC out Bn v=some r)(hM:HV AC out Bn v.1 v.2 s):Bq Y.env nY (K4 AC out Bn r) s:=by
 unfold Kc at h
 refine BN (c:=XU) (fun v=>H8 AC out Bn v.1 v.2) (fun v s=>HV AC out Bn v.1 v.2 s) (K4 AC out Bn) ?_ h hM
 clear h hM s v r
 intro v s o hM h
 obtain⟨l,XT⟩:=v
 dsimp only at h hM
 unfold H8 at h
 unfold HV at hM
 obtain⟨m0,m1,m2,m3,m4,m5,m6⟩:=hM
 unfold XU
 by_cases e4:XT<((List.replicate (AC.getD Bn.toNat default).length false).length:Int)
 ·rw [if_pos e4]at h
  obtain⟨e5,h⟩:=BF h
  obtain rfl:=Option.some.inj h
  simp (maxDischargeDepth:=9) only [↓AO,AB,Ac,AJ,AQ,↓reduceIte,Nat.reduceEqDiff,Nat.reduceLT,m0,m1,m2,m3,m4,m5,m6,e4,e5.1,e5.2,HV,Ik]
 ·rw [if_neg e4]at h
  obtain rfl:=Option.some.inj h
  simp (maxDischargeDepth:=9) only [↓AO,AB,AQ,↓reduceIte,Nat.reduceEqDiff,Nat.reduceLT,m0,m1,m2,m3,m4,m5,m6,e4,HV,K4,KF]
def HY(AC:List (List (Int×Int)))(out:List (List Bool))(Bn:Int)(s:St):Prop:=s.v 3=D.own 113 (AP (fun x=>D.own 4 (AP D.bool x)) out)∧s.v 9=D.sl 100 (AP (fun x=>D.sl 102 (AY .i64 .i64 x)) AC)∧s.v 10=D.int .i64 (AC.length:Int)∧s.v 11=D.int .i64 Bn
def K5(AC:List (List (Int×Int)))(r:(List (List Bool)))(ex:Ex)(s:St):Prop:=ex= .exit 0∧s.v 3=D.own 113 (AP (fun x=>D.own 4 (AP D.bool x)) r)
theorem Ug(AC:List (List (Int×Int))){v:(List (List Bool))×Int}{s:St}{r:(List (List Bool))}(h:J4 AC v=some r)(hM:HY AC v.1 v.2 s):Bq Y.env nZ (K5 AC r) s:=by
 unfold J4 at h
 refine BN (c:=XV) (fun v=>H9 AC v.1 v.2) (fun v s=>HY AC v.1 v.2 s) (K5 AC) ?_ h hM
 clear h hM s v r
 intro v s o hM h
 obtain⟨out,Bn⟩:=v
 dsimp only at h hM
 unfold H9 at h
 unfold HY at hM
 obtain⟨m0,m1,m2,m3⟩:=hM
 unfold XV
 by_cases e1:Bn<(AC.length:Int)
 ·rw [if_pos e1]at h
  obtain⟨e2,h⟩:=BF h
  obtain⟨e3,h⟩:=BF h
  obtain⟨Ej,hl5,h⟩:=Ao h
  try dsimp only at h
  simp (maxDischargeDepth:=9) only [↓AO,AB,Ac,BP,AJ,AQ,↓reduceIte,Nat.reduceEqDiff,Nat.reduceLT,Nat.reduceLeDiff,m1,m2,m3,e1,e2.1,e2.2,e3.1,e3.2]
  refine Ay (Uf AC out Bn hl5 ?_) ?_
  ·simp (maxDischargeDepth:=9) only [AB,↓reduceIte,Nat.reduceEqDiff,m0,m1,m2,m3,HV]
  ·intro ex5 s5 hX5
   unfold K4 at hX5
   obtain⟨rfl,n5_0,n5_1,n5_2,n5_3,n5_4⟩:=hX5
   obtain⟨e6,h⟩:=BF h
   obtain rfl:=Option.some.inj h
   simp (maxDischargeDepth:=9) only [↓AO,AB,Ac,AJ,AQ,↓reduceIte,Nat.reduceEqDiff,Nat.reduceLT,Nat.reduceLeDiff,Nat.reduceAdd,n5_0,n5_1,n5_2,n5_3,n5_4,e6,HY,Ik]
 ·rw [if_neg e1]at h
  obtain rfl:=Option.some.inj h
  simp (maxDischargeDepth:=9) only [↓AO,AB,AQ,↓reduceIte,Nat.reduceEqDiff,Nat.reduceLT,m0,m2,m3,e1,HY,K5,KF]
theorem XW(AC:List (List (Int×Int)))(AV:List Int)(AL:List Int){r:(List (List Bool))}(h:PO AC AV AL=some r):Y.call 91 [D.agg [D.sl 100 (AP (fun x=>D.sl 102 (AY .i64 .i64 x)) AC),D.sl 3 (AP (D.int .i64) AV),D.sl 3 (AP (D.int .i64) AL)]] []=some (D.own 113 (AP (fun x=>D.own 4 (AP D.bool x)) r),[]):=by
 refine c91 ?_ rfl
 unfold k91
 unfold PO at h
 obtain⟨Be,hl2,h⟩:=Ao h
 try dsimp only at h
 simp (maxDischargeDepth:=9) only [↓AO,AB,Ac,AJ,AQ,↓reduceIte,Nat.reduceEqDiff,Nat.reduceLT,Nat.reduceAdd]
 refine Ay (Ug AC hl2 ?_) ?_
 ·simp (maxDischargeDepth:=9) only [AB,↓reduceIte,Nat.reduceEqDiff,HY]<;>(repeat' apply And.intro)<;>first | rfl | exact⟨_,rfl⟩ | exact⟨_,_,rfl⟩ | simp [AP,Bu]
 ·intro ex2 s2 hX2
  unfold K5 at hX2
  obtain⟨rfl,n2_0⟩:=hX2
  obtain rfl:=Option.some.inj h
  simp (maxDischargeDepth:=9) only [↓AO,AB,Ac,AJ,↓reduceIte,Nat.reduceEqDiff,Nat.reduceLT,n2_0]
noncomputable def HZ(A7:List (List (Int×Int)))(A9:List Int)(A8:List Int)(Ah:List (List Bool))(F7:Int)(t5_1:List (List Int))(Mc:Int)(R5:Int):Option (((List (List Int))×Int×Int)⊕((List (List Int)))):=
 if R5<((A7.getD F7.toNat default).length:Int)then
  ck (0≤F7∧F7.toNat<t5_1.length)<|
  ck ((t5_1.getD F7.toNat default).length+1<1099511627776)<|
  ck (0≤F7∧F7.toNat<Ah.length)<|
  ck (0≤R5∧R5.toNat<(Ah.getD F7.toNat default).length)<|
  if((Ah.getD F7.toNat default).getD R5.toNat default)=true then
   some (Sum.inl ((t5_1.set F7.toNat ((t5_1.getD F7.toNat default)++[Mc])),IntKind.i64.wrap (Mc+1),IntKind.i64.wrap (R5+1)))
  else
   some (Sum.inl ((t5_1.set F7.toNat ((t5_1.getD F7.toNat default)++[Mc])),Mc,IntKind.i64.wrap (R5+1)))
 else
  some (Sum.inr t5_1)
noncomputable def Ke(A7:List (List (Int×Int)))(A9:List Int)(A8:List Int)(Ah:List (List Bool))(F7:Int)(v:(List (List Int))×Int×Int):Option ((List (List Int))):=Hy (fun v=>HZ A7 A9 A8 Ah F7 v.1 v.2.1 v.2.2) v
noncomputable def Ha(A7:List (List (Int×Int)))(A9:List Int)(A8:List Int)(Ah:List (List Bool))(ng:List (List Int))(F7:Int):Option (((List (List Int))×Int)⊕((List (List Int)))):=
 if F7<(A7.length:Int)then
  ck (0≤F7∧F7.toNat<A7.length)<|
  (Ke A7 A9 A8 Ah F7 (ng,0,0)).bind fun Ej=>
  some (Sum.inl (Ej,IntKind.i64.wrap (F7+1)))
 else
  some (Sum.inr ng)
noncomputable def Kg(A7:List (List (Int×Int)))(A9:List Int)(A8:List Int)(Ah:List (List Bool))(v:(List (List Int))×Int):Option ((List (List Int))):=Hy (fun v=>Ha A7 A9 A8 Ah v.1 v.2) v
noncomputable def Hd(A7:List (List (Int×Int)))(Ah:List (List Bool))(FD:(List (List Int)))(Cu:(List Int))(Ej:(List Int))(t10_0:List (List (Int×Int)))(ES:Int)(dH:List (Int×Int))(Kl:Int):Option (((List (Int×Int))×Int)⊕((List (Int×Int)))):=
 if Kl<((A7.getD ES.toNat default).length:Int)then
  ck (0≤Kl∧Kl.toNat<(A7.getD ES.toNat default).length)<|
  ck (0≤ES∧ES.toNat<Ah.length)<|
  ck (0≤Kl∧Kl.toNat<(Ah.getD ES.toNat default).length)<|
  if((Ah.getD ES.toNat default).getD Kl.toNat default)=true then
   ck (0≤(BB (A7.getD ES.toNat default) Kl.toNat)∧(BB (A7.getD ES.toNat default) Kl.toNat).toNat<FD.length)<|
   ck (0≤(Bt (A7.getD ES.toNat default) Kl.toNat)∧(Bt (A7.getD ES.toNat default) Kl.toNat).toNat<(FD.getD ((BB (A7.getD ES.toNat default) Kl.toNat).toNat) default).length)<|
   ck (dH.length*2+2<1099511627776)<|
   some (Sum.inl ((dH++[((BB (A7.getD ES.toNat default) Kl.toNat),((FD.getD ((BB (A7.getD ES.toNat default) Kl.toNat).toNat) default).getD ((Bt (A7.getD ES.toNat default) Kl.toNat).toNat) default))]),IntKind.i64.wrap (Kl+1)))
  else
   some (Sum.inl (dH,IntKind.i64.wrap (Kl+1)))
 else
  some (Sum.inr dH)
noncomputable def Kh(A7:List (List (Int×Int)))(Ah:List (List Bool))(FD:(List (List Int)))(Cu:(List Int))(Ej:(List Int))(t10_0:List (List (Int×Int)))(ES:Int)(v:(List (Int×Int))×Int):Option ((List (Int×Int))):=Hy (fun v=>Hd A7 Ah FD Cu Ej t10_0 ES v.1 v.2) v
noncomputable def He(A7:List (List (Int×Int)))(Ah:List (List Bool))(FD:(List (List Int)))(Cu:(List Int))(Ej:(List Int))(t10_0:List (List (Int×Int)))(ES:Int):Option (((List (List (Int×Int)))×Int)⊕((List (List (Int×Int))))):=
 if ES<(A7.length:Int)then
  ck (0≤ES∧ES.toNat<A7.length)<|
  (Kh A7 Ah FD Cu Ej t10_0 ES ([],0)).bind fun nA=>
  ck (t10_0.length+1<1099511627776)<|
  some (Sum.inl ((t10_0++[nA]),IntKind.i64.wrap (ES+1)))
 else
  some (Sum.inr t10_0)
noncomputable def MN(A7:List (List (Int×Int)))(Ah:List (List Bool))(FD:(List (List Int)))(Cu:(List Int))(Ej:(List Int))(v:(List (List (Int×Int)))×Int):Option ((List (List (Int×Int)))):=Hy (fun v=>He A7 Ah FD Cu Ej v.1 v.2) v
noncomputable def Nh(A7:List (List (Int×Int)))(A9:List Int)(A8:List Int)(Ah:List (List Bool)):Option ((List (List (Int×Int)))×(List Int)×(List Int)):=
 ck (0≤(A7.length:Int)∧(A7.length:Int)<1099511627776)<|
 (Kg A7 A9 A8 Ah ((List.replicate A7.length ([]:List Int)),0)).bind fun FD=>
 (MG A9).bind fun Cu=>
 (MG A8).bind fun Ej=>
 (MN A7 Ah FD Cu Ej ([],0)).bind fun KZ=>
 some (KZ,Cu,Ej)
def XX:SC:=
 .seq
 (.ops [
 ⟨(some 31),(.binOp .lss 3 (.tmp 30) (.tmp 29) 3),0,none⟩])
 (.seq
 (.cond (.tmp 31)
 .skip
 (.exit 2))
 (.seq
 (.block 3
 (.seq
 (.ops [
 ⟨(some 32),(.move (.tmp 30)),3,none⟩,
 ⟨(some 9),(.assign (.tmp 32)),3,none⟩])
 (.seq
 (.ops [
 ⟨(some 33),(.move (.tmp 5)),44,none⟩,
 ⟨(some 34),(.move (.tmp 6)),3,none⟩,
 ⟨(some 35),(.move (.tmp 5)),44,none⟩,
 ⟨(some 36),(.move (.tmp 6)),3,none⟩,
 ⟨(some 37),(.indexAddr 44 (.tmp 35) (.tmp 36)),0,none⟩,
 ⟨(some 38),(.load 23 (.tmp 37)),23,none⟩,
 ⟨(some 39),(.move (.tmp 8)),3,none⟩,
 ⟨(some 40),(.buildSlice 23 1 #[(0,(.tmp 39))]),23,none⟩,
 ⟨(some 41),(.call ⟨(.builtin .append), #[(.tmp 38),(.tmp 40)], #[23,23]⟩),23,none⟩,
 ⟨(some 42),(.indexAddr 44 (.tmp 33) (.tmp 34)),0,none⟩,
 ⟨none,(.store 23 (.tmp 42) (.tmp 41)),0,none⟩])
 (.seq
 (.ops [
 ⟨(some 43),(.move (.tmp 1)),111,none⟩,
 ⟨(some 44),(.move (.tmp 6)),3,none⟩,
 ⟨(some 45),(.indexAddr 111 (.tmp 43) (.tmp 44)),0,none⟩,
 ⟨(some 46),(.load 113 (.tmp 45)),113,none⟩,
 ⟨(some 47),(.move (.tmp 9)),3,none⟩,
 ⟨(some 48),(.indexAddr 113 (.tmp 46) (.tmp 47)),0,none⟩,
 ⟨(some 49),(.load 4 (.tmp 48)),4,none⟩])
 (.cond (.tmp 49)
 (.ops [
 ⟨(some 50),(.move (.tmp 8)),3,none⟩,
 ⟨(some 51),(.binOp .add 3 (.tmp 50) (.const (.int .i64 1)) 3),3,none⟩,
 ⟨(some 8),(.assign (.tmp 51)),3,none⟩])
 .skip)))))
 (.ops [
 ⟨(some 52),(.binOp .add 3 (.tmp 30) (.const (.int .i64 1)) 3),3,none⟩,
 ⟨(some 30),(.move (.tmp 52)),3,none⟩])))
def ni:SC:= .loop XX
def XY:SC:=
 .seq
 (.ops [
 ⟨(some 24),(.binOp .lss 3 (.tmp 23) (.tmp 22) 3),0,none⟩])
 (.seq
 (.cond (.tmp 24)
 .skip
 (.exit 0))
 (.seq
 (.block 1
 (.seq
 (.ops [
 ⟨(some 25),(.move (.tmp 23)),3,none⟩,
 ⟨(some 26),(.indexAddr 29 (.tmp 21) (.tmp 23)),0,none⟩,
 ⟨(some 27),(.load 100 (.tmp 26)),100,none⟩,
 ⟨(some 6),(.assign (.tmp 25)),3,none⟩,
 ⟨(some 7),(.assign (.tmp 27)),100,none⟩])
 (.seq
 (.ops [
 ⟨(some 8),(.assign (.const (.int .i64 0))),3,none⟩])
 (.seq
 (.ops [
 ⟨(some 28),(.move (.tmp 7)),100,none⟩,
 ⟨(some 29),(.call ⟨(.builtin .len), #[(.tmp 28)], #[100]⟩),3,none⟩,
 ⟨(some 30),(.move (.const (.int .i64 0))),3,none⟩])
 (.block 2
 ni)))))
 (.ops [
 ⟨(some 53),(.binOp .add 3 (.tmp 23) (.const (.int .i64 1)) 3),3,none⟩,
 ⟨(some 23),(.move (.tmp 53)),3,none⟩])))
def nk:SC:= .loop XY
def XZ:SC:=
 .seq
 (.ops [
 ⟨(some 72),(.binOp .lss 3 (.tmp 71) (.tmp 70) 3),0,none⟩])
 (.seq
 (.cond (.tmp 72)
 .skip
 (.exit 6))
 (.seq
 (.block 7
 (.seq
 (.ops [
 ⟨(some 73),(.move (.tmp 71)),3,none⟩,
 ⟨(some 74),(.indexAddr 100 (.tmp 69) (.tmp 71)),0,none⟩,
 ⟨(some 75),(.load 102 (.tmp 74)),102,none⟩,
 ⟨(some 15),(.alloc 102),0,none⟩,
 ⟨(some 14),(.assign (.tmp 73)),3,none⟩,
 ⟨none,(.store 102 (.tmp 15) (.tmp 75)),0,none⟩])
 (.seq
 (.ops [
 ⟨(some 76),(.move (.tmp 1)),111,none⟩,
 ⟨(some 77),(.move (.tmp 11)),3,none⟩,
 ⟨(some 78),(.indexAddr 111 (.tmp 76) (.tmp 77)),0,none⟩,
 ⟨(some 79),(.load 113 (.tmp 78)),113,none⟩,
 ⟨(some 80),(.move (.tmp 14)),3,none⟩,
 ⟨(some 81),(.indexAddr 113 (.tmp 79) (.tmp 80)),0,none⟩,
 ⟨(some 82),(.load 4 (.tmp 81)),4,none⟩])
 (.cond (.tmp 82)
 (.draws [
 (⟨[83,13,13],[83,84,85,86,87,88,89,90,91,92,93,94,95,85,94,96,95,95,97,83,96,13,96,13,97,97],[83]⟩,⟨(some 83),(.move (.tmp 13)),100,none⟩),
 (⟨[84,15,15],[83,84,85,86,87,88,89,90,91,92,93,94,95,85,94,96,95,95,97,83,96,13,96,13,97,97],[84]⟩,⟨(some 84),(.fieldAddr 102 (.tmp 15) 0),0,none⟩),
 (⟨[85,84,15],[83,84,85,86,87,88,89,90,91,92,93,94,95,85,94,96,95,95,97,83,96,13,96,13,97,97],[85]⟩,⟨(some 85),(.load 3 (.tmp 84)),3,none⟩),
 (⟨[86,5,5],[83,84,85,86,87,88,89,90,91,92,93,94,95,85,94,96,95,95,97,83,96,13,96,13,97,97],[86]⟩,⟨(some 86),(.move (.tmp 5)),44,none⟩),
 (⟨[87,15,15],[83,84,85,86,87,88,89,90,91,92,93,94,95,85,94,96,95,95,97,83,96,13,96,13,97,97],[87]⟩,⟨(some 87),(.fieldAddr 102 (.tmp 15) 0),0,none⟩),
 (⟨[88,87,15],[83,84,85,86,87,88,89,90,91,92,93,94,95,85,94,96,95,95,97,83,96,13,96,13,97,97],[88]⟩,⟨(some 88),(.load 3 (.tmp 87)),3,none⟩),
 (⟨[89,86,88,5,15],[83,84,85,86,87,88,89,90,91,92,93,94,95,85,94,96,95,95,97,83,96,13,96,13,97,97],[89]⟩,⟨(some 89),(.indexAddr 44 (.tmp 86) (.tmp 88)),0,none⟩),
 (⟨[90,89,5],[83,84,85,86,87,88,89,90,91,92,93,94,95,85,94,96,95,95,97,83,96,13,96,13,97,97],[90]⟩,⟨(some 90),(.load 23 (.tmp 89)),23,none⟩),
 (⟨[91,15,15],[83,84,85,86,87,88,89,90,91,92,93,94,95,85,94,96,95,95,97,83,96,13,96,13,97,97],[91]⟩,⟨(some 91),(.fieldAddr 102 (.tmp 15) 1),0,none⟩),
 (⟨[92,91,15],[83,84,85,86,87,88,89,90,91,92,93,94,95,85,94,96,95,95,97,83,96,13,96,13,97,97],[92]⟩,⟨(some 92),(.load 3 (.tmp 91)),3,none⟩),
 (⟨[93,90,92,5,15],[83,84,85,86,87,88,89,90,91,92,93,94,95,85,94,96,95,95,97,83,96,13,96,13,97,97],[93]⟩,⟨(some 93),(.indexAddr 23 (.tmp 90) (.tmp 92)),0,none⟩),
 (⟨[94,93,5],[83,84,85,86,87,88,89,90,91,92,93,94,95,85,94,96,95,95,97,83,96,13,96,13,97,97],[94]⟩,⟨(some 94),(.load 3 (.tmp 93)),3,none⟩),
 (⟨[95,85,94,15,5],[83,84,85,86,87,88,89,90,91,92,93,94,95,85,94,96,95,95,97,83,96,13,96,13,97,97],[95,85,94]⟩,⟨(some 95),(.build 102 #[(0,(.tmp 85)),(1,(.tmp 94))]),102,none⟩),
 (⟨[96,95,95],[83,84,85,86,87,88,89,90,91,92,93,94,95,85,94,96,95,95,97,83,96,13,96,13,97,97],[96,95,95]⟩,⟨(some 96),(.buildSlice 100 1 #[(0,(.tmp 95))]),100,none⟩),
 (⟨[97,83,96,13,96],[83,84,85,86,87,88,89,90,91,92,93,94,95,85,94,96,95,95,97,83,96,13,96,13,97,97],[97,83,96,13,96]⟩,⟨(some 97),(.call ⟨(.builtin .append), #[(.tmp 83),(.tmp 96)], #[100,100]⟩),100,none⟩),
 (⟨[13,97,97],[83,84,85,86,87,88,89,90,91,92,93,94,95,85,94,96,95,95,97,83,96,13,96,13,97,97],[13,97,97]⟩,⟨(some 13),(.assign (.tmp 97)),100,none⟩)])
 .skip))))
 (.ops [
 ⟨(some 98),(.binOp .add 3 (.tmp 71) (.const (.int .i64 1)) 3),3,none⟩,
 ⟨(some 71),(.move (.tmp 98)),3,none⟩])))
def nu:SC:= .loop XZ
def Xa:SC:=
 .seq
 (.ops [
 ⟨(some 65),(.binOp .lss 3 (.tmp 64) (.tmp 63) 3),0,none⟩])
 (.seq
 (.cond (.tmp 65)
 .skip
 (.exit 4))
 (.seq
 (.block 5
 (.seq
 (.ops [
 ⟨(some 66),(.move (.tmp 64)),3,none⟩,
 ⟨(some 67),(.indexAddr 29 (.tmp 62) (.tmp 64)),0,none⟩,
 ⟨(some 68),(.load 100 (.tmp 67)),100,none⟩,
 ⟨(some 11),(.assign (.tmp 66)),3,none⟩,
 ⟨(some 12),(.assign (.tmp 68)),100,none⟩])
 (.seq
 (.ops [
 ⟨(some 13),(.assign (.const (.slice none 0 0))),100,none⟩])
 (.seq
 (.seq
 (.ops [
 ⟨(some 69),(.move (.tmp 12)),100,none⟩,
 ⟨(some 70),(.call ⟨(.builtin .len), #[(.tmp 69)], #[100]⟩),3,none⟩,
 ⟨(some 71),(.move (.const (.int .i64 0))),3,none⟩])
 (.block 6
 nu))
 (.ops [
 ⟨(some 99),(.fieldAddr 31 (.tmp 10) 0),0,none⟩,
 ⟨(some 100),(.load 29 (.tmp 99)),29,none⟩,
 ⟨(some 101),(.move (.tmp 13)),100,none⟩,
 ⟨(some 102),(.buildSlice 29 1 #[(0,(.tmp 101))]),29,none⟩,
 ⟨(some 103),(.call ⟨(.builtin .append), #[(.tmp 100),(.tmp 102)], #[29,29]⟩),29,none⟩,
 ⟨(some 104),(.fieldAddr 31 (.tmp 10) 0),0,none⟩,
 ⟨none,(.store 29 (.tmp 104) (.tmp 103)),0,none⟩])))))
 (.ops [
 ⟨(some 105),(.binOp .add 3 (.tmp 64) (.const (.int .i64 1)) 3),3,none⟩,
 ⟨(some 64),(.move (.tmp 105)),3,none⟩])))
def ny:SC:= .loop Xa
def k93:SC:=
 .seq
 (.ops [
 ⟨(some 2),(.box 31 (.tmp 0)),0,none⟩,
 ⟨(some 4),(.alloc 31),0,none⟩])
 (.seq
 (.ops [
 ⟨(some 16),(.fieldAddr 31 (.tmp 2) 0),0,none⟩,
 ⟨(some 17),(.load 29 (.tmp 16)),29,none⟩,
 ⟨(some 18),(.call ⟨(.builtin .len), #[(.tmp 17)], #[29]⟩),3,none⟩,
 ⟨(some 19),(.makeSlice 44 (.tmp 18) (.tmp 18)),44,none⟩,
 ⟨(some 5),(.assign (.tmp 19)),44,none⟩])
 (.seq
 (.seq
 (.ops [
 ⟨(some 20),(.fieldAddr 31 (.tmp 2) 0),0,none⟩,
 ⟨(some 21),(.load 29 (.tmp 20)),29,none⟩,
 ⟨(some 22),(.call ⟨(.builtin .len), #[(.tmp 21)], #[29]⟩),3,none⟩,
 ⟨(some 23),(.move (.const (.int .i64 0))),3,none⟩])
 (.block 0
 nk))
 (.seq
 (.draws [
 (⟨[54,2,2],[54,55,56,57,58,59,60,56,59,56,59,10,10,60,10,60],[54]⟩,⟨(some 54),(.fieldAddr 31 (.tmp 2) 1),0,none⟩),
 (⟨[55,54,2],[54,55,56,57,58,59,60,56,59,56,59,10,10,60,10,60],[55]⟩,⟨(some 55),(.load 23 (.tmp 54)),23,none⟩),
 (⟨[56,55,2],[54,55,56,57,58,59,60,56,59,56,59,10,10,60,10,60],[56]⟩,⟨(some 56),(.call ⟨(.value (.func 88)), #[(.tmp 55)], #[23]⟩),23,none⟩),
 (⟨[57,2,2],[54,55,56,57,58,59,60,56,59,56,59,10,10,60,10,60],[57]⟩,⟨(some 57),(.fieldAddr 31 (.tmp 2) 2),0,none⟩),
 (⟨[58,57,2],[54,55,56,57,58,59,60,56,59,56,59,10,10,60,10,60],[58]⟩,⟨(some 58),(.load 23 (.tmp 57)),23,none⟩),
 (⟨[59,58,2],[54,55,56,57,58,59,60,56,59,56,59,10,10,60,10,60],[59]⟩,⟨(some 59),(.call ⟨(.value (.func 88)), #[(.tmp 58)], #[23]⟩),23,none⟩),
 (⟨[60,56,59,56,59],[54,55,56,57,58,59,60,56,59,56,59,10,10,60,10,60],[60,56,59,56,59]⟩,⟨(some 60),(.build 31 #[(1,(.tmp 56)),(2,(.tmp 59))]),31,none⟩),
 (⟨[10],[54,55,56,57,58,59,60,56,59,56,59,10,10,60,10,60],[10]⟩,⟨(some 10),(.alloc 31),0,none⟩),
 (⟨[10,60,10,60],[54,55,56,57,58,59,60,56,59,56,59,10,10,60,10,60],[10,60,10,60]⟩,⟨none,(.store 31 (.tmp 10) (.tmp 60)),0,none⟩)])
 (.seq
 (.seq
 (.ops [
 ⟨(some 61),(.fieldAddr 31 (.tmp 2) 0),0,none⟩,
 ⟨(some 62),(.load 29 (.tmp 61)),29,none⟩,
 ⟨(some 63),(.call ⟨(.builtin .len), #[(.tmp 62)], #[29]⟩),3,none⟩,
 ⟨(some 64),(.move (.const (.int .i64 0))),3,none⟩])
 (.block 4
 ny))
 (.seq
 (.ops [
 ⟨(some 106),(.load 31 (.tmp 10)),31,none⟩,
 ⟨none,(.store 31 (.tmp 4) (.tmp 106)),0,none⟩])
 .ret)))))
theorem A2c:Try.f93.body.map (Bh lends)=some k93:=by kernel_rfl
theorem AHc:CB Try.f93 2=true:=by kernel_rfl
theorem c93{a l:List D}{r:D×List D}(h:Bq Y.env k93 (fin AX l.length [ResultVar.cell 4 31] r) (entry a l))(ha:a.length=2):Y.call 93 a l=some r:=
 AU (Y:=Y) rfl Try.func93 (ha▸AHc) A2c h
def FR(A7:List (List (Int×Int)))(A9:List Int)(A8:List Int)(Ah:List (List Bool))(F7:Int)(t5_1:List (List Int))(Mc:Int)(R5:Int)(s:St):Prop:=s.v 1=D.sl 113 (AP (fun x=>D.sl 4 (AP D.bool x)) Ah)∧s.v 2=D.box [D.sl 100 (AP (fun x=>D.sl 102 (AY .i64 .i64 x)) A7),D.sl 3 (AP (D.int .i64) A9),D.sl 3 (AP (D.int .i64) A8)]∧s.v 4=D.box [D.own 100 [],D.own 3 [],D.own 3 []]∧s.v 5=D.own 23 (AP (fun x=>D.own 3 (AP (D.int .i64) x)) t5_1)∧s.v 6=D.int .i64 F7∧s.v 8=D.int .i64 Mc∧s.v 21=D.sl 100 (AP (fun x=>D.sl 102 (AY .i64 .i64 x)) A7)∧s.v 22=D.int .i64 (A7.length:Int)∧s.v 23=D.int .i64 F7∧s.v 29=D.int .i64 ((A7.getD F7.toNat default).length:Int)∧s.v 30=D.int .i64 R5
def K6(A7:List (List (Int×Int)))(A9:List Int)(A8:List Int)(Ah:List (List Bool))(F7:Int)(r:(List (List Int)))(ex:Ex)(s:St):Prop:=ex= .exit 2∧s.v 1=D.sl 113 (AP (fun x=>D.sl 4 (AP D.bool x)) Ah)∧s.v 2=D.box [D.sl 100 (AP (fun x=>D.sl 102 (AY .i64 .i64 x)) A7),D.sl 3 (AP (D.int .i64) A9),D.sl 3 (AP (D.int .i64) A8)]∧s.v 4=D.box [D.own 100 [],D.own 3 [],D.own 3 []]∧s.v 5=D.own 23 (AP (fun x=>D.own 3 (AP (D.int .i64) x)) r)∧s.v 21=D.sl 100 (AP (fun x=>D.sl 102 (AY .i64 .i64 x)) A7)∧s.v 22=D.int .i64 (A7.length:Int)∧s.v 23=D.int .i64 F7
theorem Uh(A7:List (List (Int×Int)))(A9:List Int)(A8:List Int)(Ah:List (List Bool))(F7:Int){v:(List (List Int))×Int×Int}{s:St}{r:(List (List Int))}(h:Ke A7 A9 A8 Ah F7 v=some r)(hM:FR A7 A9 A8 Ah F7 v.1 v.2.1 v.2.2 s):Bq Y.env ni (K6 A7 A9 A8 Ah F7 r) s:=by
 unfold Ke at h
 refine BN (c:=XX) (fun v=>HZ A7 A9 A8 Ah F7 v.1 v.2.1 v.2.2) (fun v s=>FR A7 A9 A8 Ah F7 v.1 v.2.1 v.2.2 s) (K6 A7 A9 A8 Ah F7) ?_ h hM
 clear h hM s v r
 intro v s o hM h
 obtain⟨t5_1,Mc,R5⟩:=v
 dsimp only at h hM
 unfold HZ at h
 unfold FR at hM
 obtain⟨m0,m1,m2,m3,m4,m5,m6,m7,m8,m9,m10⟩:=hM
 unfold XX
 by_cases e4:R5<((A7.getD F7.toNat default).length:Int)
 ·rw [if_pos e4]at h
  obtain⟨e5,h⟩:=BF h
  obtain⟨e6,h⟩:=BF h
  obtain⟨e7,h⟩:=BF h
  obtain⟨e8,h⟩:=BF h
  by_cases e9:((Ah.getD F7.toNat default).getD R5.toNat default)=true
  ·rw [if_pos e9]at h
   obtain rfl:=Option.some.inj h
   simp (maxDischargeDepth:=9) only [↓AO,AB,Ac,BP,AJ,AQ,↓reduceIte,Nat.reduceEqDiff,Nat.reduceLT,Nat.reduceLeDiff,Nat.reduceAdd,m0,m1,m2,m3,m4,m5,m6,m7,m8,m9,m10,e4,e5.1,e5.2,e6,e7.2,e8.1,e8.2,e9,FR,Ik]
  ·rw [if_neg e9]at h
   have e9f:((Ah.getD F7.toNat default).getD R5.toNat default)=false:=Bool.eq_false_iff.mpr e9
   obtain rfl:=Option.some.inj h
   simp (maxDischargeDepth:=9) only [↓AO,AB,Ac,BP,AJ,AQ,↓reduceIte,Nat.reduceEqDiff,Nat.reduceLT,Nat.reduceLeDiff,Nat.reduceAdd,m0,m1,m2,m3,m4,m5,m6,m7,m8,m9,m10,e4,e5.1,e5.2,e6,e7.2,e8.1,e8.2,e9f,FR,Ik]
 ·rw [if_neg e4]at h
  obtain rfl:=Option.some.inj h
  simp (maxDischargeDepth:=9) only [↓AO,AB,AQ,↓reduceIte,Nat.reduceEqDiff,Nat.reduceLT,m0,m1,m2,m3,m6,m7,m8,m9,m10,e4,FR,K6,KF]
def Hf(A7:List (List (Int×Int)))(A9:List Int)(A8:List Int)(Ah:List (List Bool))(ng:List (List Int))(F7:Int)(s:St):Prop:=s.v 1=D.sl 113 (AP (fun x=>D.sl 4 (AP D.bool x)) Ah)∧s.v 2=D.box [D.sl 100 (AP (fun x=>D.sl 102 (AY .i64 .i64 x)) A7),D.sl 3 (AP (D.int .i64) A9),D.sl 3 (AP (D.int .i64) A8)]∧s.v 4=D.box [D.own 100 [],D.own 3 [],D.own 3 []]∧s.v 5=D.own 23 (AP (fun x=>D.own 3 (AP (D.int .i64) x)) ng)∧s.v 21=D.sl 100 (AP (fun x=>D.sl 102 (AY .i64 .i64 x)) A7)∧s.v 22=D.int .i64 (A7.length:Int)∧s.v 23=D.int .i64 F7
def K7(A7:List (List (Int×Int)))(A9:List Int)(A8:List Int)(Ah:List (List Bool))(r:(List (List Int)))(ex:Ex)(s:St):Prop:=ex= .exit 0∧s.v 1=D.sl 113 (AP (fun x=>D.sl 4 (AP D.bool x)) Ah)∧s.v 2=D.box [D.sl 100 (AP (fun x=>D.sl 102 (AY .i64 .i64 x)) A7),D.sl 3 (AP (D.int .i64) A9),D.sl 3 (AP (D.int .i64) A8)]∧s.v 4=D.box [D.own 100 [],D.own 3 [],D.own 3 []]∧s.v 5=D.own 23 (AP (fun x=>D.own 3 (AP (D.int .i64) x)) r)
theorem Ui(A7:List (List (Int×Int)))(A9:List Int)(A8:List Int)(Ah:List (List Bool)){v:(List (List Int))×Int}{s:St}{r:(List (List Int))}(h:Kg A7 A9 A8 Ah v=some r)(hM:Hf A7 A9 A8 Ah v.1 v.2 s):Bq Y.env nk (K7 A7 A9 A8 Ah r) s:=by
 unfold Kg at h
 refine BN (c:=XY) (fun v=>Ha A7 A9 A8 Ah v.1 v.2) (fun v s=>Hf A7 A9 A8 Ah v.1 v.2 s) (K7 A7 A9 A8 Ah) ?_ h hM
 clear h hM s v r
 intro v s o hM h
 obtain⟨ng,F7⟩:=v
 dsimp only at h hM
 unfold Ha at h
 unfold Hf at hM
 obtain⟨m0,m1,m2,m3,m4,m5,m6⟩:=hM
 unfold XY
 by_cases e2:F7<(A7.length:Int)
 ·rw [if_pos e2]at h
  obtain⟨e3,h⟩:=BF h
  obtain⟨Ej,hl5,h⟩:=Ao h
  try dsimp only at h
  simp (maxDischargeDepth:=9) only [↓AO,AB,Ac,BP,AJ,AQ,↓reduceIte,Nat.reduceEqDiff,Nat.reduceLT,m4,m5,m6,e2,e3.1,e3.2]
  refine Ay (Uh A7 A9 A8 Ah F7 hl5 ?_) ?_
  ·simp (maxDischargeDepth:=9) only [AB,↓reduceIte,Nat.reduceEqDiff,m0,m1,m2,m3,m4,m5,m6,FR]
  ·intro ex5 s5 hX5
   unfold K6 at hX5
   obtain⟨rfl,n5_0,n5_1,n5_2,n5_3,n5_4,n5_5,n5_6⟩:=hX5
   obtain rfl:=Option.some.inj h
   simp (maxDischargeDepth:=9) only [↓AO,AB,AQ,↓reduceIte,Nat.reduceEqDiff,Nat.reduceLT,n5_0,n5_1,n5_2,n5_3,n5_4,n5_5,n5_6,Hf,Ik]
 ·rw [if_neg e2]at h
  obtain rfl:=Option.some.inj h
  simp (maxDischargeDepth:=9) only [↓AO,AB,AQ,↓reduceIte,Nat.reduceEqDiff,Nat.reduceLT,m0,m1,m2,m3,m5,m6,e2,Hf,K7,KF]
def FT(A7:List (List (Int×Int)))(Ah:List (List Bool))(FD:(List (List Int)))(Cu:(List Int))(Ej:(List Int))(t10_0:List (List (Int×Int)))(ES:Int)(dH:List (Int×Int))(Kl:Int)(s:St):Prop:=s.v 1=D.sl 113 (AP (fun x=>D.sl 4 (AP D.bool x)) Ah)∧s.v 4=D.box [D.own 100 [],D.own 3 [],D.own 3 []]∧s.v 5=D.own 23 (AP (fun x=>D.own 3 (AP (D.int .i64) x)) FD)∧s.v 10=D.box [D.own 100 (AP (fun x=>D.own 102 (AY .i64 .i64 x)) t10_0),D.own 3 (AP (D.int .i64) Cu),D.own 3 (AP (D.int .i64) Ej)]∧s.v 11=D.int .i64 ES∧s.v 13=D.own 102 (AY .i64 .i64 dH)∧s.v 62=D.sl 100 (AP (fun x=>D.sl 102 (AY .i64 .i64 x)) A7)∧s.v 63=D.int .i64 (A7.length:Int)∧s.v 64=D.int .i64 ES∧s.v 69=D.sl 102 (AY .i64 .i64 (A7.getD ES.toNat default))∧s.v 70=D.int .i64 ((A7.getD ES.toNat default).length:Int)∧s.v 71=D.int .i64 Kl
def K8(A7:List (List (Int×Int)))(Ah:List (List Bool))(FD:(List (List Int)))(Cu:(List Int))(Ej:(List Int))(t10_0:List (List (Int×Int)))(ES:Int)(r:(List (Int×Int)))(ex:Ex)(s:St):Prop:=ex= .exit 6∧s.v 1=D.sl 113 (AP (fun x=>D.sl 4 (AP D.bool x)) Ah)∧s.v 4=D.box [D.own 100 [],D.own 3 [],D.own 3 []]∧s.v 5=D.own 23 (AP (fun x=>D.own 3 (AP (D.int .i64) x)) FD)∧s.v 10=D.box [D.own 100 (AP (fun x=>D.own 102 (AY .i64 .i64 x)) t10_0),D.own 3 (AP (D.int .i64) Cu),D.own 3 (AP (D.int .i64) Ej)]∧s.v 13=D.own 102 (AY .i64 .i64 r)∧s.v 62=D.sl 100 (AP (fun x=>D.sl 102 (AY .i64 .i64 x)) A7)∧s.v 63=D.int .i64 (A7.length:Int)∧s.v 64=D.int .i64 ES
theorem Uj(A7:List (List (Int×Int)))(Ah:List (List Bool))(FD:(List (List Int)))(Cu:(List Int))(Ej:(List Int))(t10_0:List (List (Int×Int)))(ES:Int){v:(List (Int×Int))×Int}{s:St}{r:(List (Int×Int))}(h:Kh A7 Ah FD Cu Ej t10_0 ES v=some r)(hM:FT A7 Ah FD Cu Ej t10_0 ES v.1 v.2 s):Bq Y.env nu (K8 A7 Ah FD Cu Ej t10_0 ES r) s:=by
 unfold Kh at h
 refine BN (c:=XZ) (fun v=>Hd A7 Ah FD Cu Ej t10_0 ES v.1 v.2) (fun v s=>FT A7 Ah FD Cu Ej t10_0 ES v.1 v.2 s) (K8 A7 Ah FD Cu Ej t10_0 ES) ?_ h hM
 clear h hM s v r
 intro v s o hM h
 obtain⟨dH,Kl⟩:=v
 dsimp only at h hM
 unfold Hd at h
 unfold FT at hM
 obtain⟨m0,m1,m2,m3,m4,m5,m6,m7,m8,m9,m10,m11⟩:=hM
 unfold XZ
 by_cases e8:Kl<((A7.getD ES.toNat default).length:Int)
 ·rw [if_pos e8]at h
  obtain⟨e9,h⟩:=BF h
  obtain⟨e10,h⟩:=BF h
  obtain⟨e11,h⟩:=BF h
  by_cases e12:((Ah.getD ES.toNat default).getD Kl.toNat default)=true
  ·rw [if_pos e12]at h
   obtain⟨e13,h⟩:=BF h
   obtain⟨e14,h⟩:=BF h
   obtain⟨e15,h⟩:=BF h
   obtain rfl:=Option.some.inj h
   simp (maxDischargeDepth:=9) only [↓AO,AB,Ac,BP,AJ,AQ,↓reduceIte,Nat.reduceEqDiff,Nat.reduceLT,Nat.reduceLeDiff,Nat.reduceAdd,Nat.reduceBEq,m0,m1,m2,m3,m4,m5,m6,m7,m8,m9,m10,m11,e8,e9.1,e9.2,e10.1,e10.2,e11.2,e12,e13.1,e13.2,e14.1,e14.2,e15,FT,Ik]
  ·rw [if_neg e12]at h
   have e12f:((Ah.getD ES.toNat default).getD Kl.toNat default)=false:=Bool.eq_false_iff.mpr e12
   obtain rfl:=Option.some.inj h
   simp (maxDischargeDepth:=9) only [↓AO,AB,Ac,BP,AJ,AQ,↓reduceIte,Nat.reduceEqDiff,Nat.reduceLT,Nat.reduceAdd,m0,m1,m2,m3,m4,m5,m6,m7,m8,m9,m10,m11,e8,e9.1,e9.2,e10.1,e10.2,e11.2,e12f,FT,Ik]
 ·rw [if_neg e8]at h
  obtain rfl:=Option.some.inj h
  simp (maxDischargeDepth:=9) only [↓AO,AB,AQ,↓reduceIte,Nat.reduceEqDiff,Nat.reduceLT,m0,m1,m2,m3,m5,m6,m7,m8,m10,m11,e8,FT,K8,KF]
def Hg(A7:List (List (Int×Int)))(Ah:List (List Bool))(FD:(List (List Int)))(Cu:(List Int))(Ej:(List Int))(t10_0:List (List (Int×Int)))(ES:Int)(s:St):Prop:=s.v 1=D.sl 113 (AP (fun x=>D.sl 4 (AP D.bool x)) Ah)∧s.v 4=D.box [D.own 100 [],D.own 3 [],D.own 3 []]∧s.v 5=D.own 23 (AP (fun x=>D.own 3 (AP (D.int .i64) x)) FD)∧s.v 10=D.box [D.own 100 (AP (fun x=>D.own 102 (AY .i64 .i64 x)) t10_0),D.own 3 (AP (D.int .i64) Cu),D.own 3 (AP (D.int .i64) Ej)]∧s.v 62=D.sl 100 (AP (fun x=>D.sl 102 (AY .i64 .i64 x)) A7)∧s.v 63=D.int .i64 (A7.length:Int)∧s.v 64=D.int .i64 ES
def K9(A7:List (List (Int×Int)))(Ah:List (List Bool))(FD:(List (List Int)))(Cu:(List Int))(Ej:(List Int))(r:(List (List (Int×Int))))(ex:Ex)(s:St):Prop:=ex= .exit 4∧s.v 4=D.box [D.own 100 [],D.own 3 [],D.own 3 []]∧s.v 10=D.box [D.own 100 (AP (fun x=>D.own 102 (AY .i64 .i64 x)) r),D.own 3 (AP (D.int .i64) Cu),D.own 3 (AP (D.int .i64) Ej)]
theorem Uk(A7:List (List (Int×Int)))(Ah:List (List Bool))(FD:(List (List Int)))(Cu:(List Int))(Ej:(List Int)){v:(List (List (Int×Int)))×Int}{s:St}{r:(List (List (Int×Int)))}(h:MN A7 Ah FD Cu Ej v=some r)(hM:Hg A7 Ah FD Cu Ej v.1 v.2 s):Bq Y.env ny (K9 A7 Ah FD Cu Ej r) s:=by
 unfold MN at h
 refine BN (c:=Xa) (fun v=>He A7 Ah FD Cu Ej v.1 v.2) (fun v s=>Hg A7 Ah FD Cu Ej v.1 v.2 s) (K9 A7 Ah FD Cu Ej) ?_ h hM
 clear h hM s v r
 intro v s o hM h
 obtain⟨t10_0,ES⟩:=v
 dsimp only at h hM
 unfold He at h
 unfold Hg at hM
 obtain⟨m0,m1,m2,m3,m4,m5,m6⟩:=hM
 unfold Xa
 by_cases e6:ES<(A7.length:Int)
 ·rw [if_pos e6]at h
  obtain⟨e7,h⟩:=BF h
  obtain⟨nA,hl9,h⟩:=Ao h
  try dsimp only at h
  simp (maxDischargeDepth:=9) only [↓AO,AB,Ac,BP,AJ,AQ,↓reduceIte,Nat.reduceEqDiff,Nat.reduceLT,m4,m5,m6,e6,e7.1,e7.2]
  refine Ay (Uj A7 Ah FD Cu Ej t10_0 ES hl9 ?_) ?_
  ·simp (maxDischargeDepth:=9) only [AB,↓reduceIte,Nat.reduceEqDiff,m0,m1,m2,m3,m4,m5,m6,FT]<;>(repeat' apply And.intro)<;>first | rfl | exact⟨_,rfl⟩ | exact⟨_,_,rfl⟩ | simp [AP,Bu]
  ·intro ex9 s9 hX9
   unfold K8 at hX9
   obtain⟨rfl,n9_0,n9_1,n9_2,n9_3,n9_4,n9_5,n9_6,n9_7⟩:=hX9
   obtain⟨e10,h⟩:=BF h
   obtain rfl:=Option.some.inj h
   simp (maxDischargeDepth:=9) only [↓AO,AB,Ac,AJ,AQ,↓reduceIte,Nat.reduceEqDiff,Nat.reduceLT,Nat.reduceLeDiff,Nat.reduceAdd,n9_0,n9_1,n9_2,n9_3,n9_4,n9_5,n9_6,n9_7,e10,Hg,Ik]
 ·rw [if_neg e6]at h
  obtain rfl:=Option.some.inj h
  simp (maxDischargeDepth:=9) only [↓AO,AB,AQ,↓reduceIte,Nat.reduceEqDiff,Nat.reduceLT,m1,m3,m5,m6,e6,Hg,K9,KF]
theorem Xb(A7:List (List (Int×Int)))(A9:List Int)(A8:List Int)(Ah:List (List Bool)){r:(List (List (Int×Int)))×(List Int)×(List Int)}(h:Nh A7 A9 A8 Ah=some r):Y.call 93 [D.agg [D.sl 100 (AP (fun x=>D.sl 102 (AY .i64 .i64 x)) A7),D.sl 3 (AP (D.int .i64) A9),D.sl 3 (AP (D.int .i64) A8)],D.sl 113 (AP (fun x=>D.sl 4 (AP D.bool x)) Ah)] []=some (D.agg [D.own 100 (AP (fun x=>D.own 102 (AY .i64 .i64 x)) r.1),D.own 3 (AP (D.int .i64) r.2.1),D.own 3 (AP (D.int .i64) r.2.2)],[]):=by
 refine c93 ?_ rfl
 unfold k93
 unfold Nh at h
 obtain⟨e1,h⟩:=BF h
 obtain⟨FD,hl3,h⟩:=Ao h
 try dsimp only at h
 simp (maxDischargeDepth:=9) only [↓AO,AB,Ac,AJ,AQ,↓reduceIte,Nat.reduceEqDiff,Nat.reduceLT,Nat.reduceLeDiff,Nat.reduceAdd,e1.1,e1.2]
 refine Ay (Ui A7 A9 A8 Ah hl3 ?_) ?_
 ·simp (maxDischargeDepth:=9) only [AB,AJ,↓reduceIte,Nat.reduceEqDiff,Nat.reduceLT,Hf]
 ·intro ex3 s3 hX3
  unfold K7 at hX3
  obtain⟨rfl,n3_0,n3_1,n3_2,n3_3⟩:=hX3
  obtain⟨Cu,hl4,h⟩:=Ao h
  try dsimp only at h
  have c4:=MH A9 hl4
  obtain⟨Ej,hl5,h⟩:=Ao h
  try dsimp only at h
  have c5:=MH A8 hl5
  obtain⟨KZ,hl7,h⟩:=Ao h
  try dsimp only at h
  simp (maxDischargeDepth:=9) only [↓AO,AB,Ac,BP,AJ,AQ,↓reduceIte,Nat.reduceEqDiff,Nat.reduceLT,Nat.reduceLeDiff,Nat.reduceAdd,Nat.reduceBEq,n3_1,c4,c5]
  refine Ay (Uk A7 Ah FD Cu Ej hl7 ?_) ?_
  ·simp (maxDischargeDepth:=9) only [AB,↓reduceIte,Nat.reduceEqDiff,n3_0,n3_2,n3_3,Hg]<;>(repeat' apply And.intro)<;>first | rfl | exact⟨_,rfl⟩ | exact⟨_,_,rfl⟩ | simp [AP,Bu]
  ·intro ex7 s7 hX7
   unfold K9 at hX7
   obtain⟨rfl,n7_0,n7_1⟩:=hX7
   obtain rfl:=Option.some.inj h
   simp (maxDischargeDepth:=9) only [↓AO,AB,Ac,BP,AJ,AQ,↓reduceIte,Nat.reduceEqDiff,Nat.reduceAdd,n7_0,n7_1]
noncomputable def GD(A7:List (List (Int×Int)))(A9:List Int)(A8:List Int)(Ah:List Int)(ET:Int)(t5_1:List (List Bool))(J2:Int):Option (((List (List Bool))×Int)⊕((List (List Bool)))):=
 if J2<((A7.getD ET.toNat default).length:Int)then
  ck (0≤J2∧J2.toNat<(A7.getD ET.toNat default).length)<|
  ck (0≤ET∧ET.toNat<t5_1.length)<|
  ck (Ah.length<1099511627776)<|
  if(Ah.contains ET)=true then
   ck (0≤J2∧J2.toNat<(t5_1.getD ET.toNat default).length)<|
   some (Sum.inl ((t5_1.set ET.toNat ((t5_1.getD ET.toNat default).set J2.toNat (Ah.contains (BB (A7.getD ET.toNat default) J2.toNat)))),IntKind.i64.wrap (J2+1)))
  else
   ck (0≤J2∧J2.toNat<(t5_1.getD ET.toNat default).length)<|
   some (Sum.inl ((t5_1.set ET.toNat ((t5_1.getD ET.toNat default).set J2.toNat false)),IntKind.i64.wrap (J2+1)))
 else
  some (Sum.inr t5_1)
noncomputable def Jk(A7:List (List (Int×Int)))(A9:List Int)(A8:List Int)(Ah:List Int)(ET:Int)(v:(List (List Bool))×Int):Option ((List (List Bool))):=Hy (fun v=>GD A7 A9 A8 Ah ET v.1 v.2) v
noncomputable def GG(A7:List (List (Int×Int)))(A9:List Int)(A8:List Int)(Ah:List Int)(ng:List (List Bool))(ET:Int):Option (((List (List Bool))×Int)⊕((List (List Bool)))):=
 if ET<(A7.length:Int)then
  ck (0≤ET∧ET.toNat<A7.length)<|
  (Jk A7 A9 A8 Ah ET (ng,0)).bind fun Ej=>
  some (Sum.inl (Ej,IntKind.i64.wrap (ET+1)))
 else
  some (Sum.inr ng)
noncomputable def Jl(A7:List (List (Int×Int)))(A9:List Int)(A8:List Int)(Ah:List Int)(v:(List (List Bool))×Int):Option ((List (List Bool))):=Hy (fun v=>GG A7 A9 A8 Ah v.1 v.2) v
noncomputable def GH(A7:List (List (Int×Int)))(A9:List Int)(A8:List Int)(Ah:List Int)(Cu:(List (List (Int×Int)))×(List Int)×(List Int))(Bn:List Int)(R6:Int):Option (((List Int)×Int)⊕((List Int))):=
 if R6<(Ah.length:Int)then
  ck (0≤R6∧R6.toNat<Ah.length)<|
  ck (0≤(Ah.getD R6.toNat default)∧(Ah.getD R6.toNat default).toNat<Bn.length)<|
  some (Sum.inl ((Bn.set ((Ah.getD R6.toNat default).toNat) R6),IntKind.i64.wrap (R6+1)))
 else
  some (Sum.inr Bn)
noncomputable def Jm(A7:List (List (Int×Int)))(A9:List Int)(A8:List Int)(Ah:List Int)(Cu:(List (List (Int×Int)))×(List Int)×(List Int))(v:(List Int)×Int):Option ((List Int)):=Hy (fun v=>GH A7 A9 A8 Ah Cu v.1 v.2) v
noncomputable def GI(A7:List (List (Int×Int)))(A9:List Int)(A8:List Int)(Ah:List Int)(Cu:(List (List (Int×Int)))×(List Int)×(List Int))(KZ:(List Int))(t14_0:List (List (Int×Int)))(t14_1:List Int)(t14_2:List Int)(E5:Int)(iJ:List (Int×Int))(R7:Int):Option (((List (Int×Int))×Int)⊕((List (Int×Int)))):=
 if R7<((Cu.1.getD ((Ah.getD E5.toNat default).toNat) default).length:Int)then
  ck ((Ah.getD E5.toNat default).toNat<Cu.1.length)<|
  ck (0≤R7∧R7.toNat<(Cu.1.getD ((Ah.getD E5.toNat default).toNat) default).length)<|
  ck (0≤(BB (Cu.1.getD ((Ah.getD E5.toNat default).toNat) default) R7.toNat)∧(BB (Cu.1.getD ((Ah.getD E5.toNat default).toNat) default) R7.toNat).toNat<KZ.length)<|
  ck (iJ.length*2+2<1099511627776)<|
  some (Sum.inl ((iJ++[((KZ.getD ((BB (Cu.1.getD ((Ah.getD E5.toNat default).toNat) default) R7.toNat).toNat) default),(Bt (Cu.1.getD ((Ah.getD E5.toNat default).toNat) default) R7.toNat))]),IntKind.i64.wrap (R7+1)))
 else
  some (Sum.inr iJ)
noncomputable def Jn(A7:List (List (Int×Int)))(A9:List Int)(A8:List Int)(Ah:List Int)(Cu:(List (List (Int×Int)))×(List Int)×(List Int))(KZ:(List Int))(t14_0:List (List (Int×Int)))(t14_1:List Int)(t14_2:List Int)(E5:Int)(v:(List (Int×Int))×Int):Option ((List (Int×Int))):=Hy (fun v=>GI A7 A9 A8 Ah Cu KZ t14_0 t14_1 t14_2 E5 v.1 v.2) v
noncomputable def GJ(A7:List (List (Int×Int)))(A9:List Int)(A8:List Int)(Ah:List Int)(Cu:(List (List (Int×Int)))×(List Int)×(List Int))(KZ:(List Int))(t14_0:List (List (Int×Int)))(t14_1:List Int)(t14_2:List Int)(E5:Int):Option (((List (List (Int×Int)))×(List Int)×(List Int)×Int)⊕((List (List (Int×Int)))×(List Int)×(List Int))):=
 if E5<(Ah.length:Int)then
  ck (0≤E5∧E5.toNat<Ah.length)<|
  ck (0≤(Ah.getD E5.toNat default)∧(Ah.getD E5.toNat default).toNat<Cu.1.length)<|
  (Jn A7 A9 A8 Ah Cu KZ t14_0 t14_1 t14_2 E5 ([],0)).bind fun UX=>
  ck (t14_0.length+1<1099511627776)<|
  ck (0≤(Ah.getD E5.toNat default)∧(Ah.getD E5.toNat default).toNat<A8.length)<|
  ck (t14_2.length+1<1099511627776)<|
  if 0<(A9.length:Int)then
   ck (0≤(Ah.getD E5.toNat default)∧(Ah.getD E5.toNat default).toNat<A9.length)<|
   ck (t14_1.length+1<1099511627776)<|
   some (Sum.inl ((t14_0++[UX]),(t14_1++[(A9.getD ((Ah.getD E5.toNat default).toNat) default)]),(t14_2++[(A8.getD ((Ah.getD E5.toNat default).toNat) default)]),IntKind.i64.wrap (E5+1)))
  else
   some (Sum.inl ((t14_0++[UX]),t14_1,(t14_2++[(A8.getD ((Ah.getD E5.toNat default).toNat) default)]),IntKind.i64.wrap (E5+1)))
 else
  some (Sum.inr (t14_0,t14_1,t14_2))
noncomputable def LF(A7:List (List (Int×Int)))(A9:List Int)(A8:List Int)(Ah:List Int)(Cu:(List (List (Int×Int)))×(List Int)×(List Int))(KZ:(List Int))(v:(List (List (Int×Int)))×(List Int)×(List Int)×Int):Option ((List (List (Int×Int)))×(List Int)×(List Int)):=Hy (fun v=>GJ A7 A9 A8 Ah Cu KZ v.1 v.2.1 v.2.2.1 v.2.2.2) v
noncomputable def NQ(A7:List (List (Int×Int)))(A9:List Int)(A8:List Int)(Ah:List Int):Option ((List (List (Int×Int)))×(List Int)×(List Int)):=
 (PO A7 A9 A8).bind fun Il=>
 (Jl A7 A9 A8 Ah (Il,0)).bind fun FD=>
 (Nh A7 A9 A8 FD).bind fun Cu=>
 ck (0≤(A7.length:Int)∧(A7.length:Int)<1099511627776)<|
 (Jm A7 A9 A8 Ah Cu ((List.replicate A7.length 0),0)).bind fun KZ=>
 (LF A7 A9 A8 Ah Cu KZ ([],[],[],0)).bind fun nA=>
 some (nA.1,nA.2.1,nA.2.2)
def Xc:SC:=
 .seq
 (.ops [
 ⟨(some 33),(.binOp .lss 3 (.tmp 32) (.tmp 31) 3),0,none⟩])
 (.seq
 (.cond (.tmp 33)
 .skip
 (.exit 2))
 (.seq
 (.block 3
 (.seq
 (.ops [
 ⟨(some 34),(.move (.tmp 32)),3,none⟩,
 ⟨(some 35),(.indexAddr 100 (.tmp 30) (.tmp 32)),0,none⟩,
 ⟨(some 36),(.load 102 (.tmp 35)),102,none⟩,
 ⟨(some 9),(.alloc 102),0,none⟩,
 ⟨(some 8),(.assign (.tmp 34)),3,none⟩,
 ⟨none,(.store 102 (.tmp 9) (.tmp 36)),0,none⟩])
 (.draws [
 (⟨[37,5,5],[37,38,39,40,41,42,43,44,45,44,46,47,48,49,50,51,51,50,5,50],[37]⟩,⟨(some 37),(.move (.tmp 5)),111,none⟩),
 (⟨[38,6,6],[37,38,39,40,41,42,43,44,45,44,46,47,48,49,50,51,51,50,5,50],[38]⟩,⟨(some 38),(.move (.tmp 6)),3,none⟩),
 (⟨[39,37,38,5,6],[37,38,39,40,41,42,43,44,45,44,46,47,48,49,50,51,51,50,5,50],[39]⟩,⟨(some 39),(.indexAddr 111 (.tmp 37) (.tmp 38)),0,none⟩),
 (⟨[40,39,5],[37,38,39,40,41,42,43,44,45,44,46,47,48,49,50,51,51,50,5,50],[40]⟩,⟨(some 40),(.load 113 (.tmp 39)),113,none⟩),
 (⟨[41,8,8],[37,38,39,40,41,42,43,44,45,44,46,47,48,49,50,51,51,50,5,50],[41]⟩,⟨(some 41),(.move (.tmp 8)),3,none⟩),
 (⟨[42,1,1],[37,38,39,40,41,42,43,44,45,44,46,47,48,49,50,51,51,50,5,50],[42]⟩,⟨(some 42),(.move (.tmp 1)),23,none⟩),
 (⟨[43,6,6],[37,38,39,40,41,42,43,44,45,44,46,47,48,49,50,51,51,50,5,50],[43]⟩,⟨(some 43),(.move (.tmp 6)),3,none⟩),
 (⟨[44,42,43,1,6],[37,38,39,40,41,42,43,44,45,44,46,47,48,49,50,51,51,50,5,50],[44]⟩,⟨(some 44),(.call ⟨(.value (.func 92)), #[(.tmp 42),(.tmp 43)], #[23,3]⟩),4,none⟩),
 (⟨[45,44,44],[37,38,39,40,41,42,43,44,45,44,46,47,48,49,50,51,51,50,5,50],[45,44]⟩,⟨(some 45),(.move (.tmp 44)),4,none⟩),
 (⟨[46,1,1,45],[37,38,39,40,41,42,43,44,45,44,46,47,48,49,50,51,51,50,5,50],[46]⟩,⟨(some 46),(.move (.tmp 1)),23,(some (some 45,true))⟩),
 (⟨[47,9,9,45],[37,38,39,40,41,42,43,44,45,44,46,47,48,49,50,51,51,50,5,50],[47]⟩,⟨(some 47),(.fieldAddr 102 (.tmp 9) 0),0,(some (some 45,true))⟩),
 (⟨[48,47,9,45],[37,38,39,40,41,42,43,44,45,44,46,47,48,49,50,51,51,50,5,50],[48]⟩,⟨(some 48),(.load 3 (.tmp 47)),3,(some (some 45,true))⟩),
 (⟨[49,46,48,1,9,45],[37,38,39,40,41,42,43,44,45,44,46,47,48,49,50,51,51,50,5,50],[49]⟩,⟨(some 49),(.call ⟨(.value (.func 92)), #[(.tmp 46),(.tmp 48)], #[23,3]⟩),4,(some (some 45,true))⟩),
 (⟨[50,45,49,44,49],[37,38,39,40,41,42,43,44,45,44,46,47,48,49,50,51,51,50,5,50],[50]⟩,⟨(some 50),(.pick (.tmp 45) (.tmp 49) (.const (.bool false))),4,none⟩),
 (⟨[51,40,41,5,8],[37,38,39,40,41,42,43,44,45,44,46,47,48,49,50,51,51,50,5,50],[51]⟩,⟨(some 51),(.indexAddr 113 (.tmp 40) (.tmp 41)),0,none⟩),
 (⟨[51,50,5,50],[37,38,39,40,41,42,43,44,45,44,46,47,48,49,50,51,51,50,5,50],[51,50,5,50]⟩,⟨none,(.store 4 (.tmp 51) (.tmp 50)),0,none⟩)])))
 (.ops [
 ⟨(some 52),(.binOp .add 3 (.tmp 32) (.const (.int .i64 1)) 3),3,none⟩,
 ⟨(some 32),(.move (.tmp 52)),3,none⟩])))
def nz:SC:= .loop Xc
def Xd:SC:=
 .seq
 (.ops [
 ⟨(some 26),(.binOp .lss 3 (.tmp 25) (.tmp 24) 3),0,none⟩])
 (.seq
 (.cond (.tmp 26)
 .skip
 (.exit 0))
 (.seq
 (.block 1
 (.seq
 (.ops [
 ⟨(some 27),(.move (.tmp 25)),3,none⟩,
 ⟨(some 28),(.indexAddr 29 (.tmp 23) (.tmp 25)),0,none⟩,
 ⟨(some 29),(.load 100 (.tmp 28)),100,none⟩,
 ⟨(some 6),(.assign (.tmp 27)),3,none⟩,
 ⟨(some 7),(.assign (.tmp 29)),100,none⟩])
 (.seq
 (.ops [
 ⟨(some 30),(.move (.tmp 7)),100,none⟩,
 ⟨(some 31),(.call ⟨(.builtin .len), #[(.tmp 30)], #[100]⟩),3,none⟩,
 ⟨(some 32),(.move (.const (.int .i64 0))),3,none⟩])
 (.block 2
 nz))))
 (.ops [
 ⟨(some 53),(.binOp .add 3 (.tmp 25) (.const (.int .i64 1)) 3),3,none⟩,
 ⟨(some 25),(.move (.tmp 53)),3,none⟩])))
def o5:SC:= .loop Xd
def Xe:SC:=
 .seq
 (.ops [
 ⟨(some 64),(.binOp .lss 3 (.tmp 63) (.tmp 62) 3),0,none⟩])
 (.seq
 (.cond (.tmp 64)
 .skip
 (.exit 4))
 (.seq
 (.block 5
 (.seq
 (.ops [
 ⟨(some 65),(.move (.tmp 63)),3,none⟩,
 ⟨(some 66),(.indexAddr 23 (.tmp 61) (.tmp 63)),0,none⟩,
 ⟨(some 67),(.load 3 (.tmp 66)),3,none⟩,
 ⟨(some 12),(.assign (.tmp 65)),3,none⟩,
 ⟨(some 13),(.assign (.tmp 67)),3,none⟩])
 (.ops [
 ⟨(some 68),(.move (.tmp 11)),23,none⟩,
 ⟨(some 69),(.move (.tmp 13)),3,none⟩,
 ⟨(some 70),(.move (.tmp 12)),3,none⟩,
 ⟨(some 71),(.indexAddr 23 (.tmp 68) (.tmp 69)),0,none⟩,
 ⟨none,(.store 3 (.tmp 71) (.tmp 70)),0,none⟩])))
 (.ops [
 ⟨(some 72),(.binOp .add 3 (.tmp 63) (.const (.int .i64 1)) 3),3,none⟩,
 ⟨(some 63),(.move (.tmp 72)),3,none⟩])))
def o6:SC:= .loop Xe
def Xf:SC:=
 .seq
 (.ops [
 ⟨(some 87),(.binOp .lss 3 (.tmp 86) (.tmp 85) 3),0,none⟩])
 (.seq
 (.cond (.tmp 87)
 .skip
 (.exit 8))
 (.seq
 (.block 9
 (.seq
 (.ops [
 ⟨(some 88),(.indexAddr 100 (.tmp 84) (.tmp 86)),0,none⟩,
 ⟨(some 89),(.load 102 (.tmp 88)),102,none⟩,
 ⟨(some 19),(.alloc 102),0,none⟩,
 ⟨none,(.store 102 (.tmp 19) (.tmp 89)),0,none⟩])
 (.draws [
 (⟨[90,17,17],[90,91,92,93,94,95,96,97,98,95,97,99,98,98,100,90,99,17,99,17,100,100],[90]⟩,⟨(some 90),(.move (.tmp 17)),100,none⟩),
 (⟨[91,11,11],[90,91,92,93,94,95,96,97,98,95,97,99,98,98,100,90,99,17,99,17,100,100],[91]⟩,⟨(some 91),(.move (.tmp 11)),23,none⟩),
 (⟨[92,19,19],[90,91,92,93,94,95,96,97,98,95,97,99,98,98,100,90,99,17,99,17,100,100],[92]⟩,⟨(some 92),(.fieldAddr 102 (.tmp 19) 0),0,none⟩),
 (⟨[93,92,19],[90,91,92,93,94,95,96,97,98,95,97,99,98,98,100,90,99,17,99,17,100,100],[93]⟩,⟨(some 93),(.load 3 (.tmp 92)),3,none⟩),
 (⟨[94,91,93,11,19],[90,91,92,93,94,95,96,97,98,95,97,99,98,98,100,90,99,17,99,17,100,100],[94]⟩,⟨(some 94),(.indexAddr 23 (.tmp 91) (.tmp 93)),0,none⟩),
 (⟨[95,94,11],[90,91,92,93,94,95,96,97,98,95,97,99,98,98,100,90,99,17,99,17,100,100],[95]⟩,⟨(some 95),(.load 3 (.tmp 94)),3,none⟩),
 (⟨[96,19,19],[90,91,92,93,94,95,96,97,98,95,97,99,98,98,100,90,99,17,99,17,100,100],[96]⟩,⟨(some 96),(.fieldAddr 102 (.tmp 19) 1),0,none⟩),
 (⟨[97,96,19],[90,91,92,93,94,95,96,97,98,95,97,99,98,98,100,90,99,17,99,17,100,100],[97]⟩,⟨(some 97),(.load 3 (.tmp 96)),3,none⟩),
 (⟨[98,95,97,11,19],[90,91,92,93,94,95,96,97,98,95,97,99,98,98,100,90,99,17,99,17,100,100],[98,95,97]⟩,⟨(some 98),(.build 102 #[(0,(.tmp 95)),(1,(.tmp 97))]),102,none⟩),
 (⟨[99,98,98],[90,91,92,93,94,95,96,97,98,95,97,99,98,98,100,90,99,17,99,17,100,100],[99,98,98]⟩,⟨(some 99),(.buildSlice 100 1 #[(0,(.tmp 98))]),100,none⟩),
 (⟨[100,90,99,17,99],[90,91,92,93,94,95,96,97,98,95,97,99,98,98,100,90,99,17,99,17,100,100],[100,90,99,17,99]⟩,⟨(some 100),(.call ⟨(.builtin .append), #[(.tmp 90),(.tmp 99)], #[100,100]⟩),100,none⟩),
 (⟨[17,100,100],[90,91,92,93,94,95,96,97,98,95,97,99,98,98,100,90,99,17,99,17,100,100],[17,100,100]⟩,⟨(some 17),(.assign (.tmp 100)),100,none⟩)])))
 (.ops [
 ⟨(some 101),(.binOp .add 3 (.tmp 86) (.const (.int .i64 1)) 3),3,none⟩,
 ⟨(some 86),(.move (.tmp 101)),3,none⟩])))
def o7:SC:= .loop Xf
def Xg:SC:=
 .seq
 (.ops [
 ⟨(some 77),(.binOp .lss 3 (.tmp 76) (.tmp 75) 3),0,none⟩])
 (.seq
 (.cond (.tmp 77)
 .skip
 (.exit 6))
 (.seq
 (.block 7
 (.seq
 (.ops [
 ⟨(some 78),(.indexAddr 23 (.tmp 74) (.tmp 76)),0,none⟩,
 ⟨(some 79),(.load 3 (.tmp 78)),3,none⟩,
 ⟨(some 16),(.assign (.tmp 79)),3,none⟩])
 (.seq
 (.ops [
 ⟨(some 17),(.assign (.const (.slice none 0 0))),100,none⟩])
 (.seq
 (.seq
 (.ops [
 ⟨(some 80),(.fieldAddr 31 (.tmp 10) 0),0,none⟩,
 ⟨(some 81),(.load 29 (.tmp 80)),29,none⟩,
 ⟨(some 82),(.move (.tmp 16)),3,none⟩,
 ⟨(some 83),(.indexAddr 29 (.tmp 81) (.tmp 82)),0,none⟩,
 ⟨(some 84),(.load 100 (.tmp 83)),100,none⟩,
 ⟨(some 85),(.call ⟨(.builtin .len), #[(.tmp 84)], #[100]⟩),3,none⟩,
 ⟨(some 86),(.move (.const (.int .i64 0))),3,none⟩])
 (.block 8
 o7))
 (.seq
 (.ops [
 ⟨(some 102),(.fieldAddr 31 (.tmp 14) 0),0,none⟩,
 ⟨(some 103),(.load 29 (.tmp 102)),29,none⟩,
 ⟨(some 104),(.move (.tmp 17)),100,none⟩,
 ⟨(some 105),(.buildSlice 29 1 #[(0,(.tmp 104))]),29,none⟩,
 ⟨(some 106),(.call ⟨(.builtin .append), #[(.tmp 103),(.tmp 105)], #[29,29]⟩),29,none⟩,
 ⟨(some 107),(.fieldAddr 31 (.tmp 14) 0),0,none⟩,
 ⟨none,(.store 29 (.tmp 107) (.tmp 106)),0,none⟩])
 (.seq
 (.draws [
 (⟨[108,14,14],[108,109,110,111,112,113,114,115,114,2,116,109,115,14,115,117,117,116,14,116],[108]⟩,⟨(some 108),(.fieldAddr 31 (.tmp 14) 2),0,none⟩),
 (⟨[109,108,14],[108,109,110,111,112,113,114,115,114,2,116,109,115,14,115,117,117,116,14,116],[109]⟩,⟨(some 109),(.load 23 (.tmp 108)),23,none⟩),
 (⟨[110,2,2],[108,109,110,111,112,113,114,115,114,2,116,109,115,14,115,117,117,116,14,116],[110]⟩,⟨(some 110),(.fieldAddr 31 (.tmp 2) 2),0,none⟩),
 (⟨[111,110,2],[108,109,110,111,112,113,114,115,114,2,116,109,115,14,115,117,117,116,14,116],[111]⟩,⟨(some 111),(.load 23 (.tmp 110)),23,none⟩),
 (⟨[112,16,16],[108,109,110,111,112,113,114,115,114,2,116,109,115,14,115,117,117,116,14,116],[112]⟩,⟨(some 112),(.move (.tmp 16)),3,none⟩),
 (⟨[113,111,112,2,16],[108,109,110,111,112,113,114,115,114,2,116,109,115,14,115,117,117,116,14,116],[113]⟩,⟨(some 113),(.indexAddr 23 (.tmp 111) (.tmp 112)),0,none⟩),
 (⟨[114,113,2],[108,109,110,111,112,113,114,115,114,2,116,109,115,14,115,117,117,116,14,116],[114]⟩,⟨(some 114),(.load 3 (.tmp 113)),3,none⟩),
 (⟨[115,114,2],[108,109,110,111,112,113,114,115,114,2,116,109,115,14,115,117,117,116,14,116],[115,114,2]⟩,⟨(some 115),(.buildSlice 23 1 #[(0,(.tmp 114))]),23,none⟩),
 (⟨[116,109,115,14,115],[108,109,110,111,112,113,114,115,114,2,116,109,115,14,115,117,117,116,14,116],[116,109,115,14,115]⟩,⟨(some 116),(.call ⟨(.builtin .append), #[(.tmp 109),(.tmp 115)], #[23,23]⟩),23,none⟩),
 (⟨[117,14,14],[108,109,110,111,112,113,114,115,114,2,116,109,115,14,115,117,117,116,14,116],[117]⟩,⟨(some 117),(.fieldAddr 31 (.tmp 14) 2),0,none⟩),
 (⟨[117,116,14,116],[108,109,110,111,112,113,114,115,114,2,116,109,115,14,115,117,117,116,14,116],[117,116,14,116]⟩,⟨none,(.store 23 (.tmp 117) (.tmp 116)),0,none⟩)])
 (.seq
 (.ops [
 ⟨(some 118),(.fieldAddr 31 (.tmp 2) 1),0,none⟩,
 ⟨(some 119),(.load 23 (.tmp 118)),23,none⟩,
 ⟨(some 120),(.call ⟨(.builtin .len), #[(.tmp 119)], #[23]⟩),3,none⟩,
 ⟨(some 121),(.binOp .gtr 3 (.tmp 120) (.const (.int .i64 0)) 3),4,none⟩])
 (.cond (.tmp 121)
 (.draws [
 (⟨[122,14,14],[122,123,124,125,126,127,128,129,128,2,130,123,129,14,129,131,131,130,14,130],[122]⟩,⟨(some 122),(.fieldAddr 31 (.tmp 14) 1),0,none⟩),
 (⟨[123,122,14],[122,123,124,125,126,127,128,129,128,2,130,123,129,14,129,131,131,130,14,130],[123]⟩,⟨(some 123),(.load 23 (.tmp 122)),23,none⟩),
 (⟨[124,2,2],[122,123,124,125,126,127,128,129,128,2,130,123,129,14,129,131,131,130,14,130],[124]⟩,⟨(some 124),(.fieldAddr 31 (.tmp 2) 1),0,none⟩),
 (⟨[125,124,2],[122,123,124,125,126,127,128,129,128,2,130,123,129,14,129,131,131,130,14,130],[125]⟩,⟨(some 125),(.load 23 (.tmp 124)),23,none⟩),
 (⟨[126,16,16],[122,123,124,125,126,127,128,129,128,2,130,123,129,14,129,131,131,130,14,130],[126]⟩,⟨(some 126),(.move (.tmp 16)),3,none⟩),
 (⟨[127,125,126,2,16],[122,123,124,125,126,127,128,129,128,2,130,123,129,14,129,131,131,130,14,130],[127]⟩,⟨(some 127),(.indexAddr 23 (.tmp 125) (.tmp 126)),0,none⟩),
 (⟨[128,127,2],[122,123,124,125,126,127,128,129,128,2,130,123,129,14,129,131,131,130,14,130],[128]⟩,⟨(some 128),(.load 3 (.tmp 127)),3,none⟩),
 (⟨[129,128,2],[122,123,124,125,126,127,128,129,128,2,130,123,129,14,129,131,131,130,14,130],[129,128,2]⟩,⟨(some 129),(.buildSlice 23 1 #[(0,(.tmp 128))]),23,none⟩),
 (⟨[130,123,129,14,129],[122,123,124,125,126,127,128,129,128,2,130,123,129,14,129,131,131,130,14,130],[130,123,129,14,129]⟩,⟨(some 130),(.call ⟨(.builtin .append), #[(.tmp 123),(.tmp 129)], #[23,23]⟩),23,none⟩),
 (⟨[131,14,14],[122,123,124,125,126,127,128,129,128,2,130,123,129,14,129,131,131,130,14,130],[131]⟩,⟨(some 131),(.fieldAddr 31 (.tmp 14) 1),0,none⟩),
 (⟨[131,130,14,130],[122,123,124,125,126,127,128,129,128,2,130,123,129,14,129,131,131,130,14,130],[131,130,14,130]⟩,⟨none,(.store 23 (.tmp 131) (.tmp 130)),0,none⟩)])
 .skip))))))))
 (.ops [
 ⟨(some 132),(.binOp .add 3 (.tmp 76) (.const (.int .i64 1)) 3),3,none⟩,
 ⟨(some 76),(.move (.tmp 132)),3,none⟩])))
def o8:SC:= .loop Xg
def k45:SC:=
 .seq
 (.ops [
 ⟨(some 2),(.box 31 (.tmp 0)),0,none⟩,
 ⟨(some 4),(.alloc 31),0,none⟩])
 (.seq
 (.ops [
 ⟨(some 20),(.load 31 (.tmp 2)),31,none⟩,
 ⟨(some 21),(.call ⟨(.value (.func 91)), #[(.tmp 20)], #[31]⟩),111,none⟩,
 ⟨(some 5),(.assign (.tmp 21)),111,none⟩])
 (.seq
 (.seq
 (.ops [
 ⟨(some 22),(.fieldAddr 31 (.tmp 2) 0),0,none⟩,
 ⟨(some 23),(.load 29 (.tmp 22)),29,none⟩,
 ⟨(some 24),(.call ⟨(.builtin .len), #[(.tmp 23)], #[29]⟩),3,none⟩,
 ⟨(some 25),(.move (.const (.int .i64 0))),3,none⟩])
 (.block 0
 o5))
 (.seq
 (.ops [
 ⟨(some 54),(.load 31 (.tmp 2)),31,none⟩,
 ⟨(some 55),(.move (.tmp 5)),111,none⟩,
 ⟨(some 56),(.call ⟨(.value (.func 93)), #[(.tmp 54),(.tmp 55)], #[31,111]⟩),31,none⟩,
 ⟨(some 10),(.alloc 31),0,none⟩,
 ⟨none,(.store 31 (.tmp 10) (.tmp 56)),0,none⟩])
 (.seq
 (.ops [
 ⟨(some 57),(.fieldAddr 31 (.tmp 2) 0),0,none⟩,
 ⟨(some 58),(.load 29 (.tmp 57)),29,none⟩,
 ⟨(some 59),(.call ⟨(.builtin .len), #[(.tmp 58)], #[29]⟩),3,none⟩,
 ⟨(some 60),(.makeSlice 23 (.tmp 59) (.tmp 59)),23,none⟩,
 ⟨(some 11),(.assign (.tmp 60)),23,none⟩])
 (.seq
 (.seq
 (.ops [
 ⟨(some 61),(.move (.tmp 1)),23,none⟩,
 ⟨(some 62),(.call ⟨(.builtin .len), #[(.tmp 61)], #[23]⟩),3,none⟩,
 ⟨(some 63),(.move (.const (.int .i64 0))),3,none⟩])
 (.block 4
 o6))
 (.seq
 (.ops [
 ⟨(some 73),(.build 31 #[]),31,none⟩,
 ⟨(some 14),(.alloc 31),0,none⟩,
 ⟨none,(.store 31 (.tmp 14) (.tmp 73)),0,none⟩])
 (.seq
 (.seq
 (.ops [
 ⟨(some 74),(.move (.tmp 1)),23,none⟩,
 ⟨(some 75),(.call ⟨(.builtin .len), #[(.tmp 74)], #[23]⟩),3,none⟩,
 ⟨(some 76),(.move (.const (.int .i64 0))),3,none⟩])
 (.block 6
 o8))
 (.seq
 (.ops [
 ⟨(some 133),(.load 31 (.tmp 14)),31,none⟩,
 ⟨none,(.store 31 (.tmp 4) (.tmp 133)),0,none⟩])
 .ret))))))))
theorem A2d:Try.f45.body.map (Bh lends)=some k45:=by kernel_rfl
theorem AHe:CB Try.f45 2=true:=by kernel_rfl
theorem c45{a l:List D}{r:D×List D}(h:Bq Y.env k45 (fin AX l.length [ResultVar.cell 4 31] r) (entry a l))(ha:a.length=2):Y.call 45 a l=some r:=
 AU (Y:=Y) rfl Try.func45 (ha▸AHe) A2d h
def Ed(A7:List (List (Int×Int)))(A9:List Int)(A8:List Int)(Ah:List Int)(ET:Int)(t5_1:List (List Bool))(J2:Int)(s:St):Prop:=s.v 1=D.sl 3 (AP (D.int .i64) Ah)∧s.v 2=D.box [D.sl 100 (AP (fun x=>D.sl 102 (AY .i64 .i64 x)) A7),D.sl 3 (AP (D.int .i64) A9),D.sl 3 (AP (D.int .i64) A8)]∧s.v 4=D.box [D.own 100 [],D.own 3 [],D.own 3 []]∧s.v 5=D.own 113 (AP (fun x=>D.own 4 (AP D.bool x)) t5_1)∧s.v 6=D.int .i64 ET∧s.v 23=D.sl 100 (AP (fun x=>D.sl 102 (AY .i64 .i64 x)) A7)∧s.v 24=D.int .i64 (A7.length:Int)∧s.v 25=D.int .i64 ET∧s.v 30=D.sl 102 (AY .i64 .i64 (A7.getD ET.toNat default))∧s.v 31=D.int .i64 ((A7.getD ET.toNat default).length:Int)∧s.v 32=D.int .i64 J2
def JI(A7:List (List (Int×Int)))(A9:List Int)(A8:List Int)(Ah:List Int)(ET:Int)(r:(List (List Bool)))(ex:Ex)(s:St):Prop:=ex= .exit 2∧s.v 1=D.sl 3 (AP (D.int .i64) Ah)∧s.v 2=D.box [D.sl 100 (AP (fun x=>D.sl 102 (AY .i64 .i64 x)) A7),D.sl 3 (AP (D.int .i64) A9),D.sl 3 (AP (D.int .i64) A8)]∧s.v 4=D.box [D.own 100 [],D.own 3 [],D.own 3 []]∧s.v 5=D.own 113 (AP (fun x=>D.own 4 (AP D.bool x)) r)∧s.v 23=D.sl 100 (AP (fun x=>D.sl 102 (AY .i64 .i64 x)) A7)∧s.v 24=D.int .i64 (A7.length:Int)∧s.v 25=D.int .i64 ET
theorem TZ(A7:List (List (Int×Int)))(A9:List Int)(A8:List Int)(Ah:List Int)(ET:Int){v:(List (List Bool))×Int}{s:St}{r:(List (List Bool))}(h:Jk A7 A9 A8 Ah ET v=some r)(hM:Ed A7 A9 A8 Ah ET v.1 v.2 s):Bq Y.env nz (JI A7 A9 A8 Ah ET r) s:=by
 unfold Jk at h
 refine BN (c:=Xc) (fun v=>GD A7 A9 A8 Ah ET v.1 v.2) (fun v s=>Ed A7 A9 A8 Ah ET v.1 v.2 s) (JI A7 A9 A8 Ah ET) ?_ h hM
 clear h hM s v r
 intro v s o hM h
 obtain⟨t5_1,J2⟩:=v
 dsimp only at h hM
 unfold GD at h
 unfold Ed at hM
 obtain⟨m0,m1,m2,m3,m4,m5,m6,m7,m8,m9,m10⟩:=hM
 unfold Xc
 by_cases e4:J2<((A7.getD ET.toNat default).length:Int)
 ·rw [if_pos e4]at h
  obtain⟨e5,h⟩:=BF h
  obtain⟨e6,h⟩:=BF h
  obtain⟨e7,h⟩:=BF h
  have c8:=OC Ah ET e7
  by_cases e9:(Ah.contains ET)=true
  ·rw [if_pos e9]at h
   have JC:=OC Ah (BB (A7.getD ET.toNat default) J2.toNat) e7
   obtain⟨e11,h⟩:=BF h
   obtain rfl:=Option.some.inj h
   simp (maxDischargeDepth:=9) only [↓AO,AB,Ac,BP,AJ,AQ,↓reduceIte,Nat.reduceEqDiff,Nat.reduceLT,Nat.reduceAdd,Nat.reduceBEq,m0,m1,m2,m3,m4,m5,m6,m7,m8,m9,m10,e4,e5.1,e5.2,e6.1,e6.2,c8,e9,JC,e11.2,Ed,Ik]
  ·rw [if_neg e9]at h
   have e9f:(Ah.contains ET)=false:=Bool.eq_false_iff.mpr e9
   obtain⟨e10,h⟩:=BF h
   obtain rfl:=Option.some.inj h
   simp (maxDischargeDepth:=9) only [↓AO,AB,Ac,BP,AJ,AQ,↓reduceIte,Nat.reduceEqDiff,Nat.reduceLT,Nat.reduceAdd,Nat.reduceBEq,m0,m1,m2,m3,m4,m5,m6,m7,m8,m9,m10,e4,e5.1,e5.2,e6.1,e6.2,c8,e9f,e10.2,Ed,Ik]
 ·rw [if_neg e4]at h
  obtain rfl:=Option.some.inj h
  simp (maxDischargeDepth:=9) only [↓AO,AB,AQ,↓reduceIte,Nat.reduceEqDiff,Nat.reduceLT,m0,m1,m2,m3,m5,m6,m7,m9,m10,e4,Ed,JI,KF]
def GK(A7:List (List (Int×Int)))(A9:List Int)(A8:List Int)(Ah:List Int)(ng:List (List Bool))(ET:Int)(s:St):Prop:=s.v 1=D.sl 3 (AP (D.int .i64) Ah)∧s.v 2=D.box [D.sl 100 (AP (fun x=>D.sl 102 (AY .i64 .i64 x)) A7),D.sl 3 (AP (D.int .i64) A9),D.sl 3 (AP (D.int .i64) A8)]∧s.v 4=D.box [D.own 100 [],D.own 3 [],D.own 3 []]∧s.v 5=D.own 113 (AP (fun x=>D.own 4 (AP D.bool x)) ng)∧s.v 23=D.sl 100 (AP (fun x=>D.sl 102 (AY .i64 .i64 x)) A7)∧s.v 24=D.int .i64 (A7.length:Int)∧s.v 25=D.int .i64 ET
def JJ(A7:List (List (Int×Int)))(A9:List Int)(A8:List Int)(Ah:List Int)(r:(List (List Bool)))(ex:Ex)(s:St):Prop:=ex= .exit 0∧s.v 1=D.sl 3 (AP (D.int .i64) Ah)∧s.v 2=D.box [D.sl 100 (AP (fun x=>D.sl 102 (AY .i64 .i64 x)) A7),D.sl 3 (AP (D.int .i64) A9),D.sl 3 (AP (D.int .i64) A8)]∧s.v 4=D.box [D.own 100 [],D.own 3 [],D.own 3 []]∧s.v 5=D.own 113 (AP (fun x=>D.own 4 (AP D.bool x)) r)
theorem Ta(A7:List (List (Int×Int)))(A9:List Int)(A8:List Int)(Ah:List Int){v:(List (List Bool))×Int}{s:St}{r:(List (List Bool))}(h:Jl A7 A9 A8 Ah v=some r)(hM:GK A7 A9 A8 Ah v.1 v.2 s):Bq Y.env o5 (JJ A7 A9 A8 Ah r) s:=by
 unfold Jl at h
 refine BN (c:=Xd) (fun v=>GG A7 A9 A8 Ah v.1 v.2) (fun v s=>GK A7 A9 A8 Ah v.1 v.2 s) (JJ A7 A9 A8 Ah) ?_ h hM
 clear h hM s v r
 intro v s o hM h
 obtain⟨ng,ET⟩:=v
 dsimp only at h hM
 unfold GG at h
 unfold GK at hM
 obtain⟨m0,m1,m2,m3,m4,m5,m6⟩:=hM
 unfold Xd
 by_cases e2:ET<(A7.length:Int)
 ·rw [if_pos e2]at h
  obtain⟨e3,h⟩:=BF h
  obtain⟨Ej,hl5,h⟩:=Ao h
  try dsimp only at h
  simp (maxDischargeDepth:=9) only [↓AO,AB,Ac,BP,AJ,AQ,↓reduceIte,Nat.reduceEqDiff,Nat.reduceLT,m4,m5,m6,e2,e3.1,e3.2]
  refine Ay (TZ A7 A9 A8 Ah ET hl5 ?_) ?_
  ·simp (maxDischargeDepth:=9) only [AB,↓reduceIte,Nat.reduceEqDiff,m0,m1,m2,m3,m4,m5,m6,Ed]
  ·intro ex5 s5 hX5
   unfold JI at hX5
   obtain⟨rfl,n5_0,n5_1,n5_2,n5_3,n5_4,n5_5,n5_6⟩:=hX5
   obtain rfl:=Option.some.inj h
   simp (maxDischargeDepth:=9) only [↓AO,AB,AQ,↓reduceIte,Nat.reduceEqDiff,Nat.reduceLT,n5_0,n5_1,n5_2,n5_3,n5_4,n5_5,n5_6,GK,Ik]
 ·rw [if_neg e2]at h
  obtain rfl:=Option.some.inj h
  simp (maxDischargeDepth:=9) only [↓AO,AB,AQ,↓reduceIte,Nat.reduceEqDiff,Nat.reduceLT,m0,m1,m2,m3,m5,m6,e2,GK,JJ,KF]
def GL(A7:List (List (Int×Int)))(A9:List Int)(A8:List Int)(Ah:List Int)(Cu:(List (List (Int×Int)))×(List Int)×(List Int))(Bn:List Int)(R6:Int)(s:St):Prop:=s.v 1=D.sl 3 (AP (D.int .i64) Ah)∧s.v 2=D.box [D.sl 100 (AP (fun x=>D.sl 102 (AY .i64 .i64 x)) A7),D.sl 3 (AP (D.int .i64) A9),D.sl 3 (AP (D.int .i64) A8)]∧s.v 4=D.box [D.own 100 [],D.own 3 [],D.own 3 []]∧s.v 10=D.box [D.own 100 (AP (fun x=>D.own 102 (AY .i64 .i64 x)) Cu.1),D.own 3 (AP (D.int .i64) Cu.2.1),D.own 3 (AP (D.int .i64) Cu.2.2)]∧s.v 11=D.own 3 (AP (D.int .i64) Bn)∧s.v 61=D.sl 3 (AP (D.int .i64) Ah)∧s.v 62=D.int .i64 (Ah.length:Int)∧s.v 63=D.int .i64 R6
def JK(A7:List (List (Int×Int)))(A9:List Int)(A8:List Int)(Ah:List Int)(Cu:(List (List (Int×Int)))×(List Int)×(List Int))(r:(List Int))(ex:Ex)(s:St):Prop:=ex= .exit 4∧s.v 1=D.sl 3 (AP (D.int .i64) Ah)∧s.v 2=D.box [D.sl 100 (AP (fun x=>D.sl 102 (AY .i64 .i64 x)) A7),D.sl 3 (AP (D.int .i64) A9),D.sl 3 (AP (D.int .i64) A8)]∧s.v 4=D.box [D.own 100 [],D.own 3 [],D.own 3 []]∧s.v 10=D.box [D.own 100 (AP (fun x=>D.own 102 (AY .i64 .i64 x)) Cu.1),D.own 3 (AP (D.int .i64) Cu.2.1),D.own 3 (AP (D.int .i64) Cu.2.2)]∧s.v 11=D.own 3 (AP (D.int .i64) r)
theorem Tc(A7:List (List (Int×Int)))(A9:List Int)(A8:List Int)(Ah:List Int)(Cu:(List (List (Int×Int)))×(List Int)×(List Int)){v:(List Int)×Int}{s:St}{r:(List Int)}(h:Jm A7 A9 A8 Ah Cu v=some r)(hM:GL A7 A9 A8 Ah Cu v.1 v.2 s):Bq Y.env o6 (JK A7 A9 A8 Ah Cu r) s:=by
 unfold Jm at h
 refine BN (c:=Xe) (fun v=>GH A7 A9 A8 Ah Cu v.1 v.2) (fun v s=>GL A7 A9 A8 Ah Cu v.1 v.2 s) (JK A7 A9 A8 Ah Cu) ?_ h hM
 clear h hM s v r
 intro v s o hM h
 obtain⟨Bn,R6⟩:=v
 dsimp only at h hM
 unfold GH at h
 unfold GL at hM
 obtain⟨m0,m1,m2,m3,m4,m5,m6,m7⟩:=hM
 unfold Xe
 by_cases e6:R6<(Ah.length:Int)
 ·rw [if_pos e6]at h
  obtain⟨e7,h⟩:=BF h
  obtain⟨e8,h⟩:=BF h
  obtain rfl:=Option.some.inj h
  simp (maxDischargeDepth:=9) only [↓AO,AB,Ac,AJ,AQ,↓reduceIte,Nat.reduceEqDiff,Nat.reduceLT,m0,m1,m2,m3,m4,m5,m6,m7,e6,e7.1,e7.2,e8.1,e8.2,GL,Ik]
 ·rw [if_neg e6]at h
  obtain rfl:=Option.some.inj h
  simp (maxDischargeDepth:=9) only [↓AO,AB,AQ,↓reduceIte,Nat.reduceEqDiff,Nat.reduceLT,m0,m1,m2,m3,m4,m6,m7,e6,GL,JK,KF]
def GM(A7:List (List (Int×Int)))(A9:List Int)(A8:List Int)(Ah:List Int)(Cu:(List (List (Int×Int)))×(List Int)×(List Int))(KZ:(List Int))(t14_0:List (List (Int×Int)))(t14_1:List Int)(t14_2:List Int)(E5:Int)(iJ:List (Int×Int))(R7:Int)(s:St):Prop:=s.v 2=D.box [D.sl 100 (AP (fun x=>D.sl 102 (AY .i64 .i64 x)) A7),D.sl 3 (AP (D.int .i64) A9),D.sl 3 (AP (D.int .i64) A8)]∧s.v 4=D.box [D.own 100 [],D.own 3 [],D.own 3 []]∧s.v 10=D.box [D.own 100 (AP (fun x=>D.own 102 (AY .i64 .i64 x)) Cu.1),D.own 3 (AP (D.int .i64) Cu.2.1),D.own 3 (AP (D.int .i64) Cu.2.2)]∧s.v 11=D.own 3 (AP (D.int .i64) KZ)∧s.v 14=D.box [D.own 100 (AP (fun x=>D.own 102 (AY .i64 .i64 x)) t14_0),D.own 3 (AP (D.int .i64) t14_1),D.own 3 (AP (D.int .i64) t14_2)]∧s.v 16=D.int .i64 (Ah.getD E5.toNat default)∧s.v 17=D.own 102 (AY .i64 .i64 iJ)∧s.v 74=D.sl 3 (AP (D.int .i64) Ah)∧s.v 75=D.int .i64 (Ah.length:Int)∧s.v 76=D.int .i64 E5∧s.v 84=D.vw [10,0,(Ah.getD E5.toNat default).toNat] (s.k 10) (s.m 10)∧s.v 85=D.int .i64 ((Cu.1.getD ((Ah.getD E5.toNat default).toNat) default).length:Int)∧s.v 86=D.int .i64 R7
def JL(A7:List (List (Int×Int)))(A9:List Int)(A8:List Int)(Ah:List Int)(Cu:(List (List (Int×Int)))×(List Int)×(List Int))(KZ:(List Int))(t14_0:List (List (Int×Int)))(t14_1:List Int)(t14_2:List Int)(E5:Int)(r:(List (Int×Int)))(ex:Ex)(s:St):Prop:=ex= .exit 8∧s.v 2=D.box [D.sl 100 (AP (fun x=>D.sl 102 (AY .i64 .i64 x)) A7),D.sl 3 (AP (D.int .i64) A9),D.sl 3 (AP (D.int .i64) A8)]∧s.v 4=D.box [D.own 100 [],D.own 3 [],D.own 3 []]∧s.v 10=D.box [D.own 100 (AP (fun x=>D.own 102 (AY .i64 .i64 x)) Cu.1),D.own 3 (AP (D.int .i64) Cu.2.1),D.own 3 (AP (D.int .i64) Cu.2.2)]∧s.v 11=D.own 3 (AP (D.int .i64) KZ)∧s.v 14=D.box [D.own 100 (AP (fun x=>D.own 102 (AY .i64 .i64 x)) t14_0),D.own 3 (AP (D.int .i64) t14_1),D.own 3 (AP (D.int .i64) t14_2)]∧s.v 16=D.int .i64 (Ah.getD E5.toNat default)∧s.v 17=D.own 102 (AY .i64 .i64 r)∧s.v 74=D.sl 3 (AP (D.int .i64) Ah)∧s.v 75=D.int .i64 (Ah.length:Int)∧s.v 76=D.int .i64 E5
theorem Td(A7:List (List (Int×Int)))(A9:List Int)(A8:List Int)(Ah:List Int)(Cu:(List (List (Int×Int)))×(List Int)×(List Int))(KZ:(List Int))(t14_0:List (List (Int×Int)))(t14_1:List Int)(t14_2:List Int)(E5:Int){v:(List (Int×Int))×Int}{s:St}{r:(List (Int×Int))}(h:Jn A7 A9 A8 Ah Cu KZ t14_0 t14_1 t14_2 E5 v=some r)(hM:GM A7 A9 A8 Ah Cu KZ t14_0 t14_1 t14_2 E5 v.1 v.2 s):Bq Y.env o7 (JL A7 A9 A8 Ah Cu KZ t14_0 t14_1 t14_2 E5 r) s:=by
 unfold Jn at h
 refine BN (c:=Xf) (fun v=>GI A7 A9 A8 Ah Cu KZ t14_0 t14_1 t14_2 E5 v.1 v.2) (fun v s=>GM A7 A9 A8 Ah Cu KZ t14_0 t14_1 t14_2 E5 v.1 v.2 s) (JL A7 A9 A8 Ah Cu KZ t14_0 t14_1 t14_2 E5) ?_ h hM
 clear h hM s v r
 intro v s o hM h
 obtain⟨iJ,R7⟩:=v
 dsimp only at h hM
 unfold GI at h
 unfold GM at hM
 obtain⟨m0,m1,m2,m3,m4,m5,m6,m7,m8,m9,m10,m11,m12⟩:=hM
 unfold Xf
 by_cases e11:R7<((Cu.1.getD ((Ah.getD E5.toNat default).toNat) default).length:Int)
 ·rw [if_pos e11]at h
  obtain⟨e12,h⟩:=BF h
  obtain⟨e13,h⟩:=BF h
  obtain⟨e14,h⟩:=BF h
  obtain⟨e15,h⟩:=BF h
  obtain rfl:=Option.some.inj h
  simp (maxDischargeDepth:=9) only [↓AO,AB,Ac,BP,AJ,AQ,↓reduceIte,Nat.reduceEqDiff,Nat.reduceLT,Nat.reduceLeDiff,Nat.reduceAdd,Nat.reduceBEq,m0,m1,m2,m3,m4,m5,m6,m7,m8,m9,m10,m11,m12,e11,e12,e13.1,e13.2,e14.1,e14.2,e15,GM,Ik]
 ·rw [if_neg e11]at h
  obtain rfl:=Option.some.inj h
  simp (maxDischargeDepth:=9) only [↓AO,AB,AQ,↓reduceIte,Nat.reduceEqDiff,Nat.reduceLT,m0,m1,m2,m3,m4,m5,m6,m7,m8,m9,m11,m12,e11,GM,JL,KF]
def Ee(A7:List (List (Int×Int)))(A9:List Int)(A8:List Int)(Ah:List Int)(Cu:(List (List (Int×Int)))×(List Int)×(List Int))(KZ:(List Int))(t14_0:List (List (Int×Int)))(t14_1:List Int)(t14_2:List Int)(E5:Int)(s:St):Prop:=s.v 2=D.box [D.sl 100 (AP (fun x=>D.sl 102 (AY .i64 .i64 x)) A7),D.sl 3 (AP (D.int .i64) A9),D.sl 3 (AP (D.int .i64) A8)]∧s.v 4=D.box [D.own 100 [],D.own 3 [],D.own 3 []]∧s.v 10=D.box [D.own 100 (AP (fun x=>D.own 102 (AY .i64 .i64 x)) Cu.1),D.own 3 (AP (D.int .i64) Cu.2.1),D.own 3 (AP (D.int .i64) Cu.2.2)]∧s.v 11=D.own 3 (AP (D.int .i64) KZ)∧s.v 14=D.box [D.own 100 (AP (fun x=>D.own 102 (AY .i64 .i64 x)) t14_0),D.own 3 (AP (D.int .i64) t14_1),D.own 3 (AP (D.int .i64) t14_2)]∧s.v 74=D.sl 3 (AP (D.int .i64) Ah)∧s.v 75=D.int .i64 (Ah.length:Int)∧s.v 76=D.int .i64 E5
def JM(A7:List (List (Int×Int)))(A9:List Int)(A8:List Int)(Ah:List Int)(Cu:(List (List (Int×Int)))×(List Int)×(List Int))(KZ:(List Int))(r:(List (List (Int×Int)))×(List Int)×(List Int))(ex:Ex)(s:St):Prop:=ex= .exit 6∧s.v 4=D.box [D.own 100 [],D.own 3 [],D.own 3 []]∧s.v 14=D.box [D.own 100 (AP (fun x=>D.own 102 (AY .i64 .i64 x)) r.1),D.own 3 (AP (D.int .i64) r.2.1),D.own 3 (AP (D.int .i64) r.2.2)]
theorem Te(A7:List (List (Int×Int)))(A9:List Int)(A8:List Int)(Ah:List Int)(Cu:(List (List (Int×Int)))×(List Int)×(List Int))(KZ:(List Int)){v:(List (List (Int×Int)))×(List Int)×(List Int)×Int}{s:St}{r:(List (List (Int×Int)))×(List Int)×(List Int)}(h:LF A7 A9 A8 Ah Cu KZ v=some r)(hM:Ee A7 A9 A8 Ah Cu KZ v.1 v.2.1 v.2.2.1 v.2.2.2 s):Bq Y.env o8 (JM A7 A9 A8 Ah Cu KZ r) s:=by
 unfold LF at h
 refine BN (c:=Xg) (fun v=>GJ A7 A9 A8 Ah Cu KZ v.1 v.2.1 v.2.2.1 v.2.2.2) (fun v s=>Ee A7 A9 A8 Ah Cu KZ v.1 v.2.1 v.2.2.1 v.2.2.2 s) (JM A7 A9 A8 Ah Cu KZ) ?_ h hM
 clear h hM s v r
 intro v s o hM h
 obtain⟨t14_0,t14_1,t14_2,E5⟩:=v
 dsimp only at h hM
 unfold GJ at h
 unfold Ee at hM
 obtain⟨m0,m1,m2,m3,m4,m5,m6,m7⟩:=hM
 unfold Xg
 by_cases e8:E5<(Ah.length:Int)
 ·rw [if_pos e8]at h
  obtain⟨e9,h⟩:=BF h
  obtain⟨e10,h⟩:=BF h
  obtain⟨UX,hl12,h⟩:=Ao h
  try dsimp only at h
  simp (maxDischargeDepth:=9) only [↓AO,AB,Ac,BP,AJ,AQ,↓reduceIte,Nat.reduceEqDiff,Nat.reduceLT,m2,m5,m6,m7,e8,e9.1,e9.2,e10.1,e10.2]
  refine Ay (Td A7 A9 A8 Ah Cu KZ t14_0 t14_1 t14_2 E5 hl12 ?_) ?_
  ·simp (maxDischargeDepth:=9) only [AB,↓reduceIte,Nat.reduceEqDiff,m0,m1,m2,m3,m4,m5,m6,m7,GM]<;>(repeat' apply And.intro)<;>first | rfl | exact⟨_,rfl⟩ | exact⟨_,_,rfl⟩ | simp [AP,Bu]
  ·intro ex12 s12 hX12
   unfold JL at hX12
   obtain⟨rfl,n12_0,n12_1,n12_2,n12_3,n12_4,n12_5,n12_6,n12_7,n12_8,n12_9⟩:=hX12
   obtain⟨e13,h⟩:=BF h
   obtain⟨e14,h⟩:=BF h
   obtain⟨e15,h⟩:=BF h
   by_cases e16:0<(A9.length:Int)
   ·rw [if_pos e16]at h
    obtain⟨e17,h⟩:=BF h
    obtain⟨e18,h⟩:=BF h
    obtain rfl:=Option.some.inj h
    simp (maxDischargeDepth:=9) only [↓AO,AB,Ac,AJ,AQ,↓reduceIte,Nat.reduceEqDiff,Nat.reduceLT,Nat.reduceLeDiff,Nat.reduceAdd,Nat.reduceBEq,e10.1,n12_0,n12_1,n12_2,n12_3,n12_4,n12_5,n12_6,n12_7,n12_8,n12_9,e13,e14.2,e15,e16,e17.2,e18,Ee,Ik]
   ·rw [if_neg e16]at h
    obtain rfl:=Option.some.inj h
    simp (maxDischargeDepth:=9) only [↓AO,AB,Ac,AJ,AQ,↓reduceIte,Nat.reduceEqDiff,Nat.reduceLT,Nat.reduceLeDiff,Nat.reduceAdd,Nat.reduceBEq,e10.1,n12_0,n12_1,n12_2,n12_3,n12_4,n12_5,n12_6,n12_7,n12_8,n12_9,e13,e14.2,e15,e16,Ee,Ik]
 ·rw [if_neg e8]at h
  obtain rfl:=Option.some.inj h
  simp (maxDischargeDepth:=9) only [↓AO,AB,AQ,↓reduceIte,Nat.reduceEqDiff,Nat.reduceLT,m1,m4,m6,m7,e8,Ee,JM,KF]
theorem Ul(A7:List (List (Int×Int)))(A9:List Int)(A8:List Int)(Ah:List Int){r:(List (List (Int×Int)))×(List Int)×(List Int)}(h:NQ A7 A9 A8 Ah=some r):Y.call 45 [D.agg [D.sl 100 (AP (fun x=>D.sl 102 (AY .i64 .i64 x)) A7),D.sl 3 (AP (D.int .i64) A9),D.sl 3 (AP (D.int .i64) A8)],D.sl 3 (AP (D.int .i64) Ah)] []=some (D.agg [D.own 100 (AP (fun x=>D.own 102 (AY .i64 .i64 x)) r.1),D.own 3 (AP (D.int .i64) r.2.1),D.own 3 (AP (D.int .i64) r.2.2)],[]):=by
 refine c45 ?_ rfl
 unfold k45
 unfold NQ at h
 obtain⟨Il,hl1,h⟩:=Ao h
 try dsimp only at h
 have c1:=XW A7 A9 A8 hl1
 obtain⟨FD,hl3,h⟩:=Ao h
 try dsimp only at h
 simp (maxDischargeDepth:=9) only [↓AO,AB,Ac,BP,AJ,AQ,↓reduceIte,Nat.reduceEqDiff,Nat.reduceLT,Nat.reduceAdd,c1]
 refine Ay (Ta A7 A9 A8 Ah hl3 ?_) ?_
 ·simp (maxDischargeDepth:=9) only [AB,AJ,↓reduceIte,Nat.reduceEqDiff,Nat.reduceLT,GK]
 ·intro ex3 s3 hX3
  unfold JJ at hX3
  obtain⟨rfl,n3_0,n3_1,n3_2,n3_3⟩:=hX3
  obtain⟨Cu,hl4,h⟩:=Ao h
  try dsimp only at h
  have c4:=Xb A7 A9 A8 FD hl4
  obtain⟨e5,h⟩:=BF h
  obtain⟨KZ,hl7,h⟩:=Ao h
  try dsimp only at h
  simp (maxDischargeDepth:=9) only [↓AO,AB,Ac,BP,AJ,AQ,↓reduceIte,Nat.reduceEqDiff,Nat.reduceLT,Nat.reduceLeDiff,Nat.reduceAdd,n3_0,n3_1,n3_3,c4,e5.1,e5.2]
  refine Ay (Tc A7 A9 A8 Ah Cu hl7 ?_) ?_
  ·simp (maxDischargeDepth:=9) only [AB,↓reduceIte,Nat.reduceEqDiff,n3_0,n3_1,n3_2,GL]
  ·intro ex7 s7 hX7
   unfold JK at hX7
   obtain⟨rfl,n7_0,n7_1,n7_2,n7_3,n7_4⟩:=hX7
   obtain⟨nA,hl9,h⟩:=Ao h
   try dsimp only at h
   simp (maxDischargeDepth:=9) only [↓AO,AB,Ac,AJ,AQ,↓reduceIte,Nat.reduceEqDiff,Nat.reduceAdd,n7_0]
   refine Ay (Te A7 A9 A8 Ah Cu KZ hl9 ?_) ?_
   ·simp (maxDischargeDepth:=9) only [AB,↓reduceIte,Nat.reduceEqDiff,n7_1,n7_2,n7_3,n7_4,Ee]<;>(repeat' apply And.intro)<;>first | rfl | exact⟨_,rfl⟩ | exact⟨_,_,rfl⟩ | simp [AP,Bu]
   ·intro ex9 s9 hX9
    unfold JM at hX9
    obtain⟨rfl,n9_0,n9_1⟩:=hX9
    obtain rfl:=Option.some.inj h
    simp (maxDischargeDepth:=9) only [↓AO,AB,Ac,BP,AJ,AQ,↓reduceIte,Nat.reduceEqDiff,Nat.reduceAdd,n9_0,n9_1]
noncomputable def J5(AC:List (List (Int×Int)))(AV:List Int)(AL:List Int)(v_:Int)(t_:Int):Option (((List (List (Int×Int)))×(List Int)×(List Int)×(List Int)×Bool)⊕((List (List (Int×Int)))×(List Int)×(List Int)×(List Int)×Bool)):=
 (PN AC AV AL v_).bind fun Il=>
 if Il=true then
  if(Gq t_ (0:Int) (40:Int))=true then
   (NP AC AV AL v_ t_).bind fun Ej=>
   (NQ AC AV AL Ej).bind fun eP=>
   some (Sum.inl (eP.1,eP.2.1,eP.2.2,Ej,true))
  else
   some (Sum.inr ([],[],[],[],false))
 else
  some (Sum.inr ([],[],[],[],false))
def k15:SC:=
 .seq
 (.ops [
 ⟨(some 3),(.box 31 (.tmp 0)),0,none⟩,
 ⟨(some 6),(.alloc 31),0,none⟩,
 ⟨(some 7),(.assign (.const (.slice none 0 0))),23,none⟩,
 ⟨(some 8),(.assign (.const (.bool false))),4,none⟩])
 (.seq
 (.seq
 (.ops [
 ⟨(some 10),(.load 31 (.tmp 3)),31,none⟩,
 ⟨(some 11),(.move (.tmp 1)),3,none⟩,
 ⟨(some 12),(.call ⟨(.value (.func 42)), #[(.tmp 10),(.tmp 11)], #[31,3]⟩),4,none⟩,
 ⟨(some 13),(.unOp .not 4 (.tmp 12)),4,none⟩,
 ⟨(some 14),(.move (.tmp 13)),4,none⟩,
 ⟨(some 15),(.move (.tmp 2)),3,(some (some 14,false))⟩,
 ⟨(some 16),(.call ⟨(.value (.func 43)), #[(.tmp 15),(.const (.int .i64 0)),(.const (.int .i64 40))], #[3,3,3]⟩),4,(some (some 14,false))⟩,
 ⟨(some 17),(.unOp .not 4 (.tmp 16)),4,(some (some 14,false))⟩,
 ⟨(some 18),(.pick (.tmp 14) (.const (.bool true)) (.tmp 17)),4,none⟩])
 (.cond (.tmp 18)
 (.seq
 (.ops [
 ⟨(some 19),(.build 31 #[]),31,none⟩,
 ⟨none,(.store 31 (.tmp 6) (.tmp 19)),0,none⟩,
 ⟨(some 7),(.assign (.const (.slice none 0 0))),23,none⟩,
 ⟨(some 8),(.assign (.const (.bool false))),4,none⟩])
 .ret)
 .skip))
 (.seq
 (.ops [
 ⟨(some 20),(.load 31 (.tmp 3)),31,none⟩,
 ⟨(some 21),(.move (.tmp 1)),3,none⟩,
 ⟨(some 22),(.move (.tmp 2)),3,none⟩,
 ⟨(some 23),(.call ⟨(.value (.func 44)), #[(.tmp 20),(.tmp 21),(.tmp 22)], #[31,3,3]⟩),23,none⟩,
 ⟨(some 9),(.assign (.tmp 23)),23,none⟩])
 (.seq
 (.ops [
 ⟨(some 24),(.load 31 (.tmp 3)),31,none⟩,
 ⟨(some 25),(.move (.tmp 9)),23,none⟩,
 ⟨(some 26),(.call ⟨(.value (.func 45)), #[(.tmp 24),(.tmp 25)], #[31,23]⟩),31,none⟩,
 ⟨(some 27),(.move (.tmp 9)),23,none⟩,
 ⟨none,(.store 31 (.tmp 6) (.tmp 26)),0,none⟩,
 ⟨(some 7),(.assign (.tmp 27)),23,none⟩,
 ⟨(some 8),(.assign (.const (.bool true))),4,none⟩])
 .ret)))
theorem A2e:Try.f15.body.map (Bh lends)=some k15:=by kernel_rfl
theorem AHg:CB Try.f15 3=true:=by kernel_rfl
theorem c15{a l:List D}{r:D×List D}(h:Bq Y.env k15 (fin AX l.length [ResultVar.cell 6 31,ResultVar.tmp 7,ResultVar.tmp 8] r) (entry a l))(ha:a.length=3):Y.call 15 a l=some r:=
 AU (Y:=Y) rfl Try.func15 (ha▸AHg) A2e h
theorem R8(AC:List (List (Int×Int)))(AV:List Int)(AL:List Int)(v_:Int)(t_:Int){r:((List (List (Int×Int)))×(List Int)×(List Int)×(List Int)×Bool)⊕((List (List (Int×Int)))×(List Int)×(List Int)×(List Int)×Bool)}(h:J5 AC AV AL v_ t_=some r):Y.call 15 [D.agg [D.sl 100 (AP (fun x=>D.sl 102 (AY .i64 .i64 x)) AC),D.sl 3 (AP (D.int .i64) AV),D.sl 3 (AP (D.int .i64) AL)],D.int .i64 v_,D.int .i64 t_] []=some (match (generalizing:=false) r with | .inl q=>(D.tup [D.agg [D.own 100 (AP (fun x=>D.own 102 (AY .i64 .i64 x)) q.1),D.own 3 (AP (D.int .i64) q.2.1),D.own 3 (AP (D.int .i64) q.2.2.1)],D.sl 3 (AP (D.int .i64) q.2.2.2.1),D.bool q.2.2.2.2],[]) | .inr q=>(D.tup [D.agg [D.own 100 (AP (fun x=>D.own 102 (AY .i64 .i64 x)) q.1),D.own 3 (AP (D.int .i64) q.2.1),D.own 3 (AP (D.int .i64) q.2.2.1)],D.own 3 (AP (D.int .i64) q.2.2.2.1),D.bool q.2.2.2.2],[])):=by
 refine c15 ?_ rfl
 unfold k15
 unfold J5 at h
 obtain⟨Il,hl1,h⟩:=Ao h
 try dsimp only at h
 have c1:=Uc AC AV AL v_ hl1
 by_cases e2:Il=true
 ·rw [if_pos e2]at h
  have c3:=Iy t_ (0:Int) (40:Int)
  by_cases e4:(Gq t_ (0:Int) (40:Int))=true
  ·rw [if_pos e4]at h
   obtain⟨Ej,hl5,h⟩:=Ao h
   try dsimp only at h
   have c5:=Ue AC AV AL v_ t_ hl5
   obtain⟨eP,hl6,h⟩:=Ao h
   try dsimp only at h
   have c6:=Ul AC AV AL Ej hl6
   obtain rfl:=Option.some.inj h
   simp (maxDischargeDepth:=9) only [↓AO,AB,Ac,BP,AJ,AQ,↓reduceIte,Nat.reduceEqDiff,Nat.reduceLT,Nat.reduceAdd,c1,e2,c3,e4,c5,c6]
  ·rw [if_neg e4]at h
   have e4f:(Gq t_ (0:Int) (40:Int))=false:=Bool.eq_false_iff.mpr e4
   obtain rfl:=Option.some.inj h
   simp (maxDischargeDepth:=9) only [↓AO,AB,BP,AJ,AQ,↓reduceIte,Nat.reduceEqDiff,Nat.reduceLT,Nat.reduceAdd,c1,e2,c3,e4f]<;>(repeat' apply And.intro)<;>first | rfl | exact⟨_,rfl⟩ | exact⟨_,_,rfl⟩ | simp [AP,Bu]
 ·rw [if_neg e2]at h
  have e2f:Il=false:=Bool.eq_false_iff.mpr e2
  obtain rfl:=Option.some.inj h
  simp (maxDischargeDepth:=9) only [↓AO,AB,BP,AJ,AQ,↓reduceIte,Nat.reduceEqDiff,Nat.reduceLT,Nat.reduceAdd,c1,e2f]<;>(repeat' apply And.intro)<;>first | rfl | exact⟨_,rfl⟩ | exact⟨_,_,rfl⟩ | simp [AP,Bu]
end Go.Proofs.Ytipfckompmhljaa
