/- Whether classes are consistent: the law, lifted. Conditions: none. -/
import Derived.Test.YtjjahjjhohcidaaL6
import Derived.Test.YtjjahjjhohcidaaCstA
import Derived.Test.YtjjahjjhohcidaaNmk
namespace Go.Proofs.Ytjjahjjhohcidaa
open Go Dv
set_option linter.unusedSimpArgs false
set_option linter.unusedVariables false
set_option maxRecDepth 100000
set_option maxHeartbeats 4000000
noncomputable def CC(AR:List (List (Int×Int)))(Ac:List Int)(AG:List Int)(aClass:List Int):Option (Bool):=
 if 1048576<(aClass.length:Int)then
  some true
 else
  ck (H8 AR)<|
  ck (Ac.length<9223372036854775808)<|
  ck (AG.length<9223372036854775808)<|
  ck (0≤(1048576:Int)∧(1048576:Int)≤1048576)<|
  if(Ub (1048576:Int) AR Ac AG)<0 then
   some true
  else
   ck (BP AR)<|
   ck (Ac.length<1099511627776)<|
   ck (AG.length<1099511627776)<|
   ck (aClass.length<1099511627776)<|
   (DT AR Ac AG aClass).bind fun EJ=>
   (DR AR Ac AG aClass).bind fun LN=>
   if LN.1=true then
    if EJ.1=true then
     if LN.2=true then
      if EJ.2=true then
       if(EW AR Ac AG AR Ac AG)=true then
        if(decide (aClass=aClass))=true then
         some true
        else
         some false
       else
        some false
      else
       some false
     else
      if EJ.2=true then
       some false
      else
       if(EW AR Ac AG AR Ac AG)=true then
        if(decide (aClass=aClass))=true then
         some true
        else
         some false
       else
        some false
    else
     some false
   else
    if EJ.1=true then
     some false
    else
     if LN.2=true then
      if EJ.2=true then
       if(EW AR Ac AG AR Ac AG)=true then
        if(decide (aClass=aClass))=true then
         some true
        else
         some false
       else
        some false
      else
       some false
     else
      if EJ.2=true then
       some false
      else
       if(EW AR Ac AG AR Ac AG)=true then
        if(decide (aClass=aClass))=true then
         some true
        else
         some false
       else
        some false
def k3:SC:=
 .seq
 (.ops [
 ⟨(some 2),(.box 25 (.tmp 0)),0,none⟩,
 ⟨(some 4),(.assign (.const (.bool false))),4,none⟩])
 (.seq
 (.seq
 (.ops [
 ⟨(some 12),(.move (.tmp 1)),23,none⟩,
 ⟨(some 13),(.call ⟨(.builtin .len), #[(.tmp 12)], #[23]⟩),3,none⟩,
 ⟨(some 14),(.binOp .gtr 3 (.tmp 13) (.const (.int .i64 1048576)) 3),4,none⟩])
 (.cond (.tmp 14)
 (.seq
 (.ops [
 ⟨(some 4),(.assign (.const (.bool true))),4,none⟩])
 .ret)
 .skip))
 (.seq
 (.ops [
 ⟨(some 5),(.assign (.const (.int .i64 1048576))),3,none⟩])
 (.seq
 (.ops [
 ⟨(some 15),(.load 25 (.tmp 2)),25,none⟩,
 ⟨(some 16),(.move (.tmp 5)),3,none⟩,
 ⟨(some 17),(.call ⟨(.value (.func 10)), #[(.tmp 15),(.tmp 16)], #[25,3]⟩),3,none⟩,
 ⟨(some 5),(.assign (.tmp 17)),3,none⟩])
 (.seq
 (.seq
 (.ops [
 ⟨(some 18),(.move (.tmp 5)),3,none⟩,
 ⟨(some 19),(.binOp .lss 3 (.tmp 18) (.const (.int .i64 0)) 3),4,none⟩])
 (.cond (.tmp 19)
 (.seq
 (.ops [
 ⟨(some 4),(.assign (.const (.bool true))),4,none⟩])
 .ret)
 .skip))
 (.seq
 (.ops [
 ⟨(some 21),(.load 25 (.tmp 2)),25,none⟩,
 ⟨(some 22),(.call ⟨(.value (.func 12)), #[(.tmp 21)], #[25]⟩),31,none⟩,
 ⟨(some 23),(.move (.tmp 1)),23,none⟩,
 ⟨(some 24),(.call ⟨(.value (.func 13)), #[(.tmp 23)], #[23]⟩),23,none⟩,
 ⟨(some 25),(.call ⟨(.value (.func 11)), #[(.tmp 22),(.tmp 24)], #[31,23]⟩),27,none⟩,
 ⟨(some 20),(.move (.tmp 25)),27,none⟩,
 ⟨(some 26),(.extract (.tmp 20) 0),4,none⟩,
 ⟨(some 27),(.extract (.tmp 20) 1),4,none⟩,
 ⟨(some 6),(.assign (.tmp 26)),4,none⟩,
 ⟨(some 7),(.assign (.tmp 27)),4,none⟩])
 (.seq
 (.ops [
 ⟨(some 28),(.load 25 (.tmp 2)),25,none⟩,
 ⟨(some 29),(.call ⟨(.value (.func 12)), #[(.tmp 28)], #[25]⟩),31,none⟩,
 ⟨(some 8),(.alloc 31),0,none⟩,
 ⟨none,(.store 31 (.tmp 8) (.tmp 29)),0,none⟩])
 (.seq
 (.ops [
 ⟨(some 30),(.move (.tmp 1)),23,none⟩,
 ⟨(some 31),(.call ⟨(.value (.func 13)), #[(.tmp 30)], #[23]⟩),23,none⟩,
 ⟨(some 9),(.assign (.tmp 31)),23,none⟩])
 (.seq
 (.ops [
 ⟨(some 33),(.load 31 (.tmp 8)),31,none⟩,
 ⟨(some 34),(.move (.tmp 9)),23,none⟩,
 ⟨(some 35),(.call ⟨(.value (.func 14)), #[(.tmp 33),(.tmp 34)], #[31,23]⟩),27,none⟩,
 ⟨(some 32),(.move (.tmp 35)),27,none⟩,
 ⟨(some 36),(.extract (.tmp 32) 0),4,none⟩,
 ⟨(some 37),(.extract (.tmp 32) 1),4,none⟩,
 ⟨(some 10),(.assign (.tmp 36)),4,none⟩,
 ⟨(some 11),(.assign (.tmp 37)),4,none⟩])
 (.seq
 (.seq
 (.ops [
 ⟨(some 38),(.move (.tmp 10)),4,none⟩,
 ⟨(some 39),(.move (.tmp 6)),4,none⟩,
 ⟨(some 40),(.binOp .neq 4 (.tmp 38) (.tmp 39) 4),4,none⟩,
 ⟨(some 41),(.move (.tmp 40)),4,none⟩,
 ⟨(some 42),(.move (.tmp 11)),4,(some (some 41,false))⟩,
 ⟨(some 43),(.move (.tmp 7)),4,(some (some 41,false))⟩,
 ⟨(some 44),(.binOp .neq 4 (.tmp 42) (.tmp 43) 4),4,(some (some 41,false))⟩,
 ⟨(some 45),(.pick (.tmp 41) (.const (.bool true)) (.tmp 44)),4,none⟩])
 (.cond (.tmp 45)
 (.seq
 (.ops [
 ⟨(some 4),(.assign (.const (.bool false))),4,none⟩])
 .ret)
 .skip))
 (.seq
 (.seq
 (.draws [
 (⟨[46,8,8],[46,47,48,49,50],[46]⟩,⟨(some 46),(.load 31 (.tmp 8)),31,none⟩),
 (⟨[47,2,2],[46,47,48,49,50],[47]⟩,⟨(some 47),(.load 25 (.tmp 2)),25,none⟩),
 (⟨[48,47,2],[46,47,48,49,50],[48]⟩,⟨(some 48),(.call ⟨(.value (.func 12)), #[(.tmp 47)], #[25]⟩),31,none⟩),
 (⟨[49,46,48,8,48],[46,47,48,49,50],[49]⟩,⟨(some 49),(.call ⟨(.value (.func 15)), #[(.tmp 46),(.tmp 48)], #[31,31]⟩),4,none⟩),
 (⟨[50,49,49],[46,47,48,49,50],[50]⟩,⟨(some 50),(.unOp .not 4 (.tmp 49)),4,none⟩)])
 (.cond (.tmp 50)
 (.seq
 (.ops [
 ⟨(some 4),(.assign (.const (.bool false))),4,none⟩])
 .ret)
 .skip))
 (.seq
 (.seq
 (.ops [
 ⟨(some 51),(.move (.tmp 9)),23,none⟩,
 ⟨(some 52),(.move (.tmp 1)),23,none⟩,
 ⟨(some 53),(.call ⟨(.value (.func 13)), #[(.tmp 52)], #[23]⟩),23,none⟩,
 ⟨(some 54),(.call ⟨(.value (.func 16)), #[(.tmp 51),(.tmp 53)], #[23,23]⟩),4,none⟩,
 ⟨(some 55),(.unOp .not 4 (.tmp 54)),4,none⟩])
 (.cond (.tmp 55)
 (.seq
 (.ops [
 ⟨(some 4),(.assign (.const (.bool false))),4,none⟩])
 .ret)
 .skip))
 (.seq
 (.ops [
 ⟨(some 4),(.assign (.const (.bool true))),4,none⟩])
 .ret))))))))))))
theorem mu:Try.f3.body.map (BZ lends)=some k3:=by kernel_rfl
theorem ok3:CD Try.f3 2=true:=by kernel_rfl
theorem c3{a l:List D}{r:D×List D}(h:Bw Y.env k3 (Ew AE l.length [ResultVar.tmp 4] r) (entry a l))(ha:a.length=2):Y.call 3 a l=some r:=
 AN (Y:=Y) rfl Try.func3 (ha▸ok3) mu h
theorem F5(AR:List (List (Int×Int)))(Ac:List Int)(AG:List Int)(aClass:List Int){r:Bool}(h:CC AR Ac AG aClass=some r):Y.call 3 [D.agg [D.sl 100 (A8 (fun x=>D.sl 134 (AT .i64 .i64 x)) AR),D.sl 3 (A8 (D.int .i64) Ac),D.sl 3 (A8 (D.int .i64) AG)],D.sl 3 (A8 (D.int .i64) aClass)] []=some (D.bool r,[]):=by
 refine c3 ?_ rfl
 unfold k3
 unfold CC at h
 by_cases e1:1048576<(aClass.length:Int)
 ·rw [if_pos e1]at h
  obtain rfl:=Option.some.inj h
  simp (maxDischargeDepth:=9) only [↓A9,A5,AB,AY,A6,AA,AZ,↓reduceIte,Nat.reduceEqDiff,Nat.reduceLT,Nat.reduceLeDiff,Nat.reduceAdd,Nat.reduceMul,Nat.reduceMod,Nat.reduceDiv,Nat.reducePow,Nat.reduceSub,Nat.reduceBEq,Int.reduceLE,Int.reduceLT,Int.reduceEq,Int.reduceSub,Int.reduceAdd,Int.reduceToNat,Int.reduceNeg,e1]<;>(repeat' apply And.intro)<;>first | rfl | exact⟨_,rfl⟩ | exact⟨_,_,rfl⟩ | simp [A8,A3]
 ·rw [if_neg e1]at h
  obtain⟨e2,h⟩:=C7 h
  obtain⟨e3,h⟩:=C7 h
  obtain⟨e4,h⟩:=C7 h
  obtain⟨e5,h⟩:=C7 h
  have c6:=Kf AR Ac AG (1048576:Int) e2 e3 e4 e5
  by_cases e7:(Ub (1048576:Int) AR Ac AG)<0
  ·rw [if_pos e7]at h
   obtain rfl:=Option.some.inj h
   simp (maxDischargeDepth:=9) only [↓A9,A5,AB,AY,A6,AA,AZ,↓reduceIte,Nat.reduceEqDiff,Nat.reduceLT,Nat.reduceLeDiff,Nat.reduceAdd,Nat.reduceMul,Nat.reduceMod,Nat.reduceDiv,Nat.reducePow,Nat.reduceSub,Nat.reduceBEq,Int.reduceLE,Int.reduceLT,Int.reduceEq,Int.reduceSub,Int.reduceAdd,Int.reduceToNat,Int.reduceNeg,e1,e2,e3,e4,e5.1,e5.2,c6,e7]<;>(repeat' apply And.intro)<;>first | rfl | exact⟨_,rfl⟩ | exact⟨_,_,rfl⟩ | simp [A8,A3]
  ·rw [if_neg e7]at h
   obtain⟨e8,h⟩:=C7 h
   obtain⟨e9,h⟩:=C7 h
   obtain⟨e10,h⟩:=C7 h
   have Kr:=Cc AR Ac AG e8 e9 e10
   obtain⟨e12,h⟩:=C7 h
   have Lz:=Cj aClass e12
   obtain⟨EJ,hl14,h⟩:=Bg h
   try dsimp only at h
   have P2:=H4 AR Ac AG aClass hl14
   have LJ:=Cc AR Ac AG e8 e9 e10
   have P1:=Cj aClass e12
   obtain⟨LN,hl17,h⟩:=Bg h
   try dsimp only at h
   have c17:=H2 AR Ac AG aClass hl17
   by_cases e18:LN.1=true
   ·rw [if_pos e18]at h
    by_cases e19:EJ.1=true
    ·rw [if_pos e19]at h
     by_cases e20:LN.2=true
     ·rw [if_pos e20]at h
      by_cases e21:EJ.2=true
      ·rw [if_pos e21]at h
       have c22:=Cc AR Ac AG e8 e9 e10
       have c23:=EB AR Ac AG AR Ac AG e8 e9 e10
       by_cases e24:(EW AR Ac AG AR Ac AG)=true
       ·rw [if_pos e24]at h
        have c25:=Cj aClass e12
        have ZC:=Dy aClass aClass e12
        by_cases e27:(decide (aClass=aClass))=true
        ·rw [if_pos e27]at h
         obtain rfl:=Option.some.inj h
         simp (maxDischargeDepth:=9) only [↓A9,A5,AB,AY,A6,AA,AZ,↓reduceIte,Nat.reduceEqDiff,Nat.reduceLT,Nat.reduceLeDiff,Nat.reduceAdd,Nat.reduceMul,Nat.reduceMod,Nat.reduceDiv,Nat.reducePow,Nat.reduceSub,Nat.reduceBEq,Int.reduceLE,Int.reduceLT,Int.reduceEq,Int.reduceSub,Int.reduceAdd,Int.reduceToNat,Int.reduceNeg,e1,e2,e3,e4,e5.1,e5.2,c6,e7,e8,e9,e10,Kr,e12,Lz,P2,LJ,P1,c17,e18,e19,e20,e21,c22,c23,e24,c25,ZC,e27]<;>(repeat' apply And.intro)<;>first | rfl | exact⟨_,rfl⟩ | exact⟨_,_,rfl⟩ | simp [A8,A3]
        ·exact absurd (decide_eq_true rfl) e27
       ·rw [if_neg e24]at h
        have e24f:(EW AR Ac AG AR Ac AG)=false:=Bool.eq_false_iff.mpr e24
        obtain rfl:=Option.some.inj h
        simp (maxDischargeDepth:=9) only [↓A9,A5,AB,AY,A6,AA,AZ,↓reduceIte,Nat.reduceEqDiff,Nat.reduceLT,Nat.reduceLeDiff,Nat.reduceAdd,Nat.reduceMul,Nat.reduceMod,Nat.reduceDiv,Nat.reducePow,Nat.reduceSub,Nat.reduceBEq,Int.reduceLE,Int.reduceLT,Int.reduceEq,Int.reduceSub,Int.reduceAdd,Int.reduceToNat,Int.reduceNeg,e1,e2,e3,e4,e5.1,e5.2,c6,e7,e8,e9,e10,Kr,e12,Lz,P2,LJ,P1,c17,e18,e19,e20,e21,c22,c23,e24f]<;>(repeat' apply And.intro)<;>first | rfl | exact⟨_,rfl⟩ | exact⟨_,_,rfl⟩ | simp [A8,A3]
      ·rw [if_neg e21]at h
       have e21f:EJ.2=false:=Bool.eq_false_iff.mpr e21
       obtain rfl:=Option.some.inj h
       simp (maxDischargeDepth:=9) only [↓A9,A5,AB,AY,A6,AA,AZ,↓reduceIte,Nat.reduceEqDiff,Nat.reduceLT,Nat.reduceLeDiff,Nat.reduceAdd,Nat.reduceMul,Nat.reduceMod,Nat.reduceDiv,Nat.reducePow,Nat.reduceSub,Nat.reduceBEq,Int.reduceLE,Int.reduceLT,Int.reduceEq,Int.reduceSub,Int.reduceAdd,Int.reduceToNat,Int.reduceNeg,e1,e2,e3,e4,e5.1,e5.2,c6,e7,e8,e9,e10,Kr,e12,Lz,P2,LJ,P1,c17,e18,e19,e20,e21f]<;>(repeat' apply And.intro)<;>first | rfl | exact⟨_,rfl⟩ | exact⟨_,_,rfl⟩ | simp [A8,A3]
     ·rw [if_neg e20]at h
      have e20f:LN.2=false:=Bool.eq_false_iff.mpr e20
      by_cases e21:EJ.2=true
      ·rw [if_pos e21]at h
       obtain rfl:=Option.some.inj h
       simp (maxDischargeDepth:=9) only [↓A9,A5,AB,AY,A6,AA,AZ,↓reduceIte,Nat.reduceEqDiff,Nat.reduceLT,Nat.reduceLeDiff,Nat.reduceAdd,Nat.reduceMul,Nat.reduceMod,Nat.reduceDiv,Nat.reducePow,Nat.reduceSub,Nat.reduceBEq,Int.reduceLE,Int.reduceLT,Int.reduceEq,Int.reduceSub,Int.reduceAdd,Int.reduceToNat,Int.reduceNeg,e1,e2,e3,e4,e5.1,e5.2,c6,e7,e8,e9,e10,Kr,e12,Lz,P2,LJ,P1,c17,e18,e19,e20f,e21]<;>(repeat' apply And.intro)<;>first | rfl | exact⟨_,rfl⟩ | exact⟨_,_,rfl⟩ | simp [A8,A3]
      ·rw [if_neg e21]at h
       have e21f:EJ.2=false:=Bool.eq_false_iff.mpr e21
       have c22:=Cc AR Ac AG e8 e9 e10
       have c23:=EB AR Ac AG AR Ac AG e8 e9 e10
       by_cases e24:(EW AR Ac AG AR Ac AG)=true
       ·rw [if_pos e24]at h
        have c25:=Cj aClass e12
        have ZC:=Dy aClass aClass e12
        by_cases e27:(decide (aClass=aClass))=true
        ·rw [if_pos e27]at h
         obtain rfl:=Option.some.inj h
         simp (maxDischargeDepth:=9) only [↓A9,A5,AB,AY,A6,AA,AZ,↓reduceIte,Nat.reduceEqDiff,Nat.reduceLT,Nat.reduceLeDiff,Nat.reduceAdd,Nat.reduceMul,Nat.reduceMod,Nat.reduceDiv,Nat.reducePow,Nat.reduceSub,Nat.reduceBEq,Int.reduceLE,Int.reduceLT,Int.reduceEq,Int.reduceSub,Int.reduceAdd,Int.reduceToNat,Int.reduceNeg,e1,e2,e3,e4,e5.1,e5.2,c6,e7,e8,e9,e10,Kr,e12,Lz,P2,LJ,P1,c17,e18,e19,e20f,e21f,c22,c23,e24,c25,ZC,e27]<;>(repeat' apply And.intro)<;>first | rfl | exact⟨_,rfl⟩ | exact⟨_,_,rfl⟩ | simp [A8,A3]
        ·exact absurd (decide_eq_true rfl) e27
       ·rw [if_neg e24]at h
        have e24f:(EW AR Ac AG AR Ac AG)=false:=Bool.eq_false_iff.mpr e24
        obtain rfl:=Option.some.inj h
        simp (maxDischargeDepth:=9) only [↓A9,A5,AB,AY,A6,AA,AZ,↓reduceIte,Nat.reduceEqDiff,Nat.reduceLT,Nat.reduceLeDiff,Nat.reduceAdd,Nat.reduceMul,Nat.reduceMod,Nat.reduceDiv,Nat.reducePow,Nat.reduceSub,Nat.reduceBEq,Int.reduceLE,Int.reduceLT,Int.reduceEq,Int.reduceSub,Int.reduceAdd,Int.reduceToNat,Int.reduceNeg,e1,e2,e3,e4,e5.1,e5.2,c6,e7,e8,e9,e10,Kr,e12,Lz,P2,LJ,P1,c17,e18,e19,e20f,e21f,c22,c23,e24f]<;>(repeat' apply And.intro)<;>first | rfl | exact⟨_,rfl⟩ | exact⟨_,_,rfl⟩ | simp [A8,A3]
    ·rw [if_neg e19]at h
     have e19f:EJ.1=false:=Bool.eq_false_iff.mpr e19
     obtain rfl:=Option.some.inj h
     simp (maxDischargeDepth:=9) only [↓A9,A5,AB,AY,A6,AA,AZ,↓reduceIte,Nat.reduceEqDiff,Nat.reduceLT,Nat.reduceLeDiff,Nat.reduceAdd,Nat.reduceMul,Nat.reduceMod,Nat.reduceDiv,Nat.reducePow,Nat.reduceSub,Nat.reduceBEq,Int.reduceLE,Int.reduceLT,Int.reduceEq,Int.reduceSub,Int.reduceAdd,Int.reduceToNat,Int.reduceNeg,e1,e2,e3,e4,e5.1,e5.2,c6,e7,e8,e9,e10,Kr,e12,Lz,P2,LJ,P1,c17,e18,e19f]<;>(repeat' apply And.intro)<;>first | rfl | exact⟨_,rfl⟩ | exact⟨_,_,rfl⟩ | simp [A8,A3]
   ·rw [if_neg e18]at h
    have e18f:LN.1=false:=Bool.eq_false_iff.mpr e18
    by_cases e19:EJ.1=true
    ·rw [if_pos e19]at h
     obtain rfl:=Option.some.inj h
     simp (maxDischargeDepth:=9) only [↓A9,A5,AB,AY,A6,AA,AZ,↓reduceIte,Nat.reduceEqDiff,Nat.reduceLT,Nat.reduceLeDiff,Nat.reduceAdd,Nat.reduceMul,Nat.reduceMod,Nat.reduceDiv,Nat.reducePow,Nat.reduceSub,Nat.reduceBEq,Int.reduceLE,Int.reduceLT,Int.reduceEq,Int.reduceSub,Int.reduceAdd,Int.reduceToNat,Int.reduceNeg,e1,e2,e3,e4,e5.1,e5.2,c6,e7,e8,e9,e10,Kr,e12,Lz,P2,LJ,P1,c17,e18f,e19]<;>(repeat' apply And.intro)<;>first | rfl | exact⟨_,rfl⟩ | exact⟨_,_,rfl⟩ | simp [A8,A3]
    ·rw [if_neg e19]at h
     have e19f:EJ.1=false:=Bool.eq_false_iff.mpr e19
     by_cases e20:LN.2=true
     ·rw [if_pos e20]at h
      by_cases e21:EJ.2=true
      ·rw [if_pos e21]at h
       have c22:=Cc AR Ac AG e8 e9 e10
       have c23:=EB AR Ac AG AR Ac AG e8 e9 e10
       by_cases e24:(EW AR Ac AG AR Ac AG)=true
       ·rw [if_pos e24]at h
        have c25:=Cj aClass e12
        have ZC:=Dy aClass aClass e12
        by_cases e27:(decide (aClass=aClass))=true
        ·rw [if_pos e27]at h
         obtain rfl:=Option.some.inj h
         simp (maxDischargeDepth:=9) only [↓A9,A5,AB,AY,A6,AA,AZ,↓reduceIte,Nat.reduceEqDiff,Nat.reduceLT,Nat.reduceLeDiff,Nat.reduceAdd,Nat.reduceMul,Nat.reduceMod,Nat.reduceDiv,Nat.reducePow,Nat.reduceSub,Nat.reduceBEq,Int.reduceLE,Int.reduceLT,Int.reduceEq,Int.reduceSub,Int.reduceAdd,Int.reduceToNat,Int.reduceNeg,e1,e2,e3,e4,e5.1,e5.2,c6,e7,e8,e9,e10,Kr,e12,Lz,P2,LJ,P1,c17,e18f,e19f,e20,e21,c22,c23,e24,c25,ZC,e27]<;>(repeat' apply And.intro)<;>first | rfl | exact⟨_,rfl⟩ | exact⟨_,_,rfl⟩ | simp [A8,A3]
        ·exact absurd (decide_eq_true rfl) e27
       ·rw [if_neg e24]at h
        have e24f:(EW AR Ac AG AR Ac AG)=false:=Bool.eq_false_iff.mpr e24
        obtain rfl:=Option.some.inj h
        simp (maxDischargeDepth:=9) only [↓A9,A5,AB,AY,A6,AA,AZ,↓reduceIte,Nat.reduceEqDiff,Nat.reduceLT,Nat.reduceLeDiff,Nat.reduceAdd,Nat.reduceMul,Nat.reduceMod,Nat.reduceDiv,Nat.reducePow,Nat.reduceSub,Nat.reduceBEq,Int.reduceLE,Int.reduceLT,Int.reduceEq,Int.reduceSub,Int.reduceAdd,Int.reduceToNat,Int.reduceNeg,e1,e2,e3,e4,e5.1,e5.2,c6,e7,e8,e9,e10,Kr,e12,Lz,P2,LJ,P1,c17,e18f,e19f,e20,e21,c22,c23,e24f]<;>(repeat' apply And.intro)<;>first | rfl | exact⟨_,rfl⟩ | exact⟨_,_,rfl⟩ | simp [A8,A3]
      ·rw [if_neg e21]at h
       have e21f:EJ.2=false:=Bool.eq_false_iff.mpr e21
       obtain rfl:=Option.some.inj h
       simp (maxDischargeDepth:=9) only [↓A9,A5,AB,AY,A6,AA,AZ,↓reduceIte,Nat.reduceEqDiff,Nat.reduceLT,Nat.reduceLeDiff,Nat.reduceAdd,Nat.reduceMul,Nat.reduceMod,Nat.reduceDiv,Nat.reducePow,Nat.reduceSub,Nat.reduceBEq,Int.reduceLE,Int.reduceLT,Int.reduceEq,Int.reduceSub,Int.reduceAdd,Int.reduceToNat,Int.reduceNeg,e1,e2,e3,e4,e5.1,e5.2,c6,e7,e8,e9,e10,Kr,e12,Lz,P2,LJ,P1,c17,e18f,e19f,e20,e21f]<;>(repeat' apply And.intro)<;>first | rfl | exact⟨_,rfl⟩ | exact⟨_,_,rfl⟩ | simp [A8,A3]
     ·rw [if_neg e20]at h
      have e20f:LN.2=false:=Bool.eq_false_iff.mpr e20
      by_cases e21:EJ.2=true
      ·rw [if_pos e21]at h
       obtain rfl:=Option.some.inj h
       simp (maxDischargeDepth:=9) only [↓A9,A5,AB,AY,A6,AA,AZ,↓reduceIte,Nat.reduceEqDiff,Nat.reduceLT,Nat.reduceLeDiff,Nat.reduceAdd,Nat.reduceMul,Nat.reduceMod,Nat.reduceDiv,Nat.reducePow,Nat.reduceSub,Nat.reduceBEq,Int.reduceLE,Int.reduceLT,Int.reduceEq,Int.reduceSub,Int.reduceAdd,Int.reduceToNat,Int.reduceNeg,e1,e2,e3,e4,e5.1,e5.2,c6,e7,e8,e9,e10,Kr,e12,Lz,P2,LJ,P1,c17,e18f,e19f,e20f,e21]<;>(repeat' apply And.intro)<;>first | rfl | exact⟨_,rfl⟩ | exact⟨_,_,rfl⟩ | simp [A8,A3]
      ·rw [if_neg e21]at h
       have e21f:EJ.2=false:=Bool.eq_false_iff.mpr e21
       have c22:=Cc AR Ac AG e8 e9 e10
       have c23:=EB AR Ac AG AR Ac AG e8 e9 e10
       by_cases e24:(EW AR Ac AG AR Ac AG)=true
       ·rw [if_pos e24]at h
        have c25:=Cj aClass e12
        have ZC:=Dy aClass aClass e12
        by_cases e27:(decide (aClass=aClass))=true
        ·rw [if_pos e27]at h
         obtain rfl:=Option.some.inj h
         simp (maxDischargeDepth:=9) only [↓A9,A5,AB,AY,A6,AA,AZ,↓reduceIte,Nat.reduceEqDiff,Nat.reduceLT,Nat.reduceLeDiff,Nat.reduceAdd,Nat.reduceMul,Nat.reduceMod,Nat.reduceDiv,Nat.reducePow,Nat.reduceSub,Nat.reduceBEq,Int.reduceLE,Int.reduceLT,Int.reduceEq,Int.reduceSub,Int.reduceAdd,Int.reduceToNat,Int.reduceNeg,e1,e2,e3,e4,e5.1,e5.2,c6,e7,e8,e9,e10,Kr,e12,Lz,P2,LJ,P1,c17,e18f,e19f,e20f,e21f,c22,c23,e24,c25,ZC,e27]<;>(repeat' apply And.intro)<;>first | rfl | exact⟨_,rfl⟩ | exact⟨_,_,rfl⟩ | simp [A8,A3]
        ·exact absurd (decide_eq_true rfl) e27
       ·rw [if_neg e24]at h
        have e24f:(EW AR Ac AG AR Ac AG)=false:=Bool.eq_false_iff.mpr e24
        obtain rfl:=Option.some.inj h
        simp (maxDischargeDepth:=9) only [↓A9,A5,AB,AY,A6,AA,AZ,↓reduceIte,Nat.reduceEqDiff,Nat.reduceLT,Nat.reduceLeDiff,Nat.reduceAdd,Nat.reduceMul,Nat.reduceMod,Nat.reduceDiv,Nat.reducePow,Nat.reduceSub,Nat.reduceBEq,Int.reduceLE,Int.reduceLT,Int.reduceEq,Int.reduceSub,Int.reduceAdd,Int.reduceToNat,Int.reduceNeg,e1,e2,e3,e4,e5.1,e5.2,c6,e7,e8,e9,e10,Kr,e12,Lz,P2,LJ,P1,c17,e18f,e19f,e20f,e21f,c22,c23,e24f]<;>(repeat' apply And.intro)<;>first | rfl | exact⟨_,rfl⟩ | exact⟨_,_,rfl⟩ | simp [A8,A3]
end Go.Proofs.Ytjjahjjhohcidaa
