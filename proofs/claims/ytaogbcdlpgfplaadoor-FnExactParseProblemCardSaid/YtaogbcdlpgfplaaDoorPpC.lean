/- Texts of problems read: the law, lifted. Conditions: none. -/
import Derived.Test.YtaogbcdlpgfplaaDoorL6
import Derived.Test.YtaogbcdlpgfplaaDoorTxB
namespace Go.Proofs.YtaogbcdlpgfplaaDoor
open Go Dv
set_option linter.unusedSimpArgs false
set_option linter.unusedVariables false
set_option maxRecDepth 100000
set_option maxHeartbeats 4000000
noncomputable def EG(I8:ByteArray):Option (Bool):=
 if 1048576<(I8.size:Int)then
  some true
 else
  (F4 I8).bind fun F7=>
  (Ew I8).bind fun CF=>
  ck (BV CF.2.2.1)<|
  ck (BV CF.2.2.2.1)<|
  if(PW CF.1 CF.2.1 CF.2.2.1 CF.2.2.2.1 F7.1 F7.2.1 F7.2.2.1 F7.2.2.2.1)=true then
   if CF.2.2.2.2=true then
    if F7.2.2.2.2=true then
     ck (0≤(1:Int)∧(1:Int)+GU CF.2.2.1+GU CF.2.2.2.1<1099511627776)<|
     (FV CF.1 CF.2.1 (Dz (1:Int) CF.2.2.1) (Dz ((1:Int)+GU CF.2.2.1) CF.2.2.2.1) (1:Int)).bind fun Rc=>
     if Rc<0 then
      some false
     else
      if Rc=((1:Int)+GU CF.2.2.1+GU CF.2.2.2.1)then
       some true
      else
       some false
    else
     some false
   else
    if F7.2.2.2.2=true then
     some false
    else
     ck (0≤(1:Int)∧(1:Int)+GU CF.2.2.1+GU CF.2.2.2.1<1099511627776)<|
     (FV CF.1 CF.2.1 (Dz (1:Int) CF.2.2.1) (Dz ((1:Int)+GU CF.2.2.1) CF.2.2.2.1) (1:Int)).bind fun Rc=>
     if Rc<0 then
      some false
     else
      if Rc=((1:Int)+GU CF.2.2.1+GU CF.2.2.2.1)then
       some true
      else
       some false
  else
   some false
def k6:SC:=
 .seq
 (.ops [
 ⟨(some 2),(.assign (.const (.bool false))),4,none⟩])
 (.seq
 (.seq
 (.ops [
 ⟨(some 11),(.move (.tmp 0)),9,none⟩,
 ⟨(some 12),(.call ⟨(.builtin .len), #[(.tmp 11)], #[9]⟩),3,none⟩,
 ⟨(some 13),(.binOp .gtr 3 (.tmp 12) (.const (.int .i64 1048576)) 3),4,none⟩])
 (.cond (.tmp 13)
 (.seq
 (.ops [
 ⟨(some 2),(.assign (.const (.bool true))),4,none⟩])
 .ret)
 .skip))
 (.seq
 (.ops [
 ⟨(some 15),(.move (.tmp 0)),9,none⟩,
 ⟨(some 16),(.call ⟨(.value (.func 21)), #[(.tmp 15)], #[9]⟩),43,none⟩,
 ⟨(some 14),(.move (.tmp 16)),43,none⟩,
 ⟨(some 17),(.extract (.tmp 14) 0),39,none⟩,
 ⟨(some 18),(.extract (.tmp 14) 1),4,none⟩,
 ⟨(some 3),(.alloc 39),0,none⟩,
 ⟨none,(.store 39 (.tmp 3) (.tmp 17)),0,none⟩,
 ⟨(some 4),(.assign (.tmp 18)),4,none⟩])
 (.seq
 (.ops [
 ⟨(some 20),(.move (.tmp 0)),9,none⟩,
 ⟨(some 21),(.call ⟨(.value (.func 22)), #[(.tmp 20)], #[9]⟩),43,none⟩,
 ⟨(some 19),(.move (.tmp 21)),43,none⟩,
 ⟨(some 22),(.extract (.tmp 19) 0),39,none⟩,
 ⟨(some 23),(.extract (.tmp 19) 1),4,none⟩,
 ⟨(some 5),(.alloc 39),0,none⟩,
 ⟨none,(.store 39 (.tmp 5) (.tmp 22)),0,none⟩,
 ⟨(some 6),(.assign (.tmp 23)),4,none⟩])
 (.seq
 (.seq
 (.ops [
 ⟨(some 24),(.load 39 (.tmp 5)),39,none⟩,
 ⟨(some 25),(.load 39 (.tmp 3)),39,none⟩,
 ⟨(some 26),(.call ⟨(.value (.func 20)), #[(.tmp 24),(.tmp 25)], #[39,39]⟩),4,none⟩,
 ⟨(some 27),(.unOp .not 4 (.tmp 26)),4,none⟩,
 ⟨(some 28),(.move (.tmp 27)),4,none⟩,
 ⟨(some 29),(.move (.tmp 6)),4,(some (some 28,false))⟩,
 ⟨(some 30),(.move (.tmp 4)),4,(some (some 28,false))⟩,
 ⟨(some 31),(.binOp .neq 4 (.tmp 29) (.tmp 30) 4),4,(some (some 28,false))⟩,
 ⟨(some 32),(.pick (.tmp 28) (.const (.bool true)) (.tmp 31)),4,none⟩])
 (.cond (.tmp 32)
 (.seq
 (.ops [
 ⟨(some 2),(.assign (.const (.bool false))),4,none⟩])
 .ret)
 .skip))
 (.seq
 (.ops [
 ⟨(some 7),(.assign (.const (.int .i64 1))),3,none⟩])
 (.seq
 (.ops [
 ⟨(some 33),(.load 39 (.tmp 5)),39,none⟩,
 ⟨(some 34),(.move (.tmp 7)),3,none⟩,
 ⟨(some 35),(.call ⟨(.value (.func 23)), #[(.tmp 33),(.tmp 34)], #[39,3]⟩),3,none⟩,
 ⟨(some 7),(.assign (.tmp 35)),3,none⟩])
 (.seq
 (.ops [
 ⟨(some 8),(.assign (.const (.int .i64 1))),3,none⟩])
 (.seq
 (.ops [
 ⟨(some 36),(.load 39 (.tmp 5)),39,none⟩,
 ⟨(some 37),(.move (.tmp 8)),3,none⟩,
 ⟨(some 38),(.call ⟨(.value (.func 24)), #[(.tmp 36),(.tmp 37)], #[39,3]⟩),3,none⟩,
 ⟨(some 8),(.assign (.tmp 38)),3,none⟩])
 (.seq
 (.seq
 (.ops [
 ⟨(some 39),(.move (.tmp 8)),3,none⟩,
 ⟨(some 40),(.binOp .lss 3 (.tmp 39) (.const (.int .i64 0)) 3),4,none⟩])
 (.cond (.tmp 40)
 (.seq
 (.ops [
 ⟨(some 2),(.assign (.const (.bool false))),4,none⟩])
 .ret)
 .skip))
 (.seq
 (.seq
 (.ops [
 ⟨(some 41),(.move (.tmp 8)),3,none⟩,
 ⟨(some 42),(.move (.tmp 7)),3,none⟩,
 ⟨(some 43),(.binOp .neq 3 (.tmp 41) (.tmp 42) 3),4,none⟩])
 (.cond (.tmp 43)
 (.seq
 (.ops [
 ⟨(some 2),(.assign (.const (.bool false))),4,none⟩])
 .ret)
 .skip))
 (.seq
 (.ops [
 ⟨(some 45),(.move (.tmp 0)),9,none⟩,
 ⟨(some 46),(.call ⟨(.value (.func 22)), #[(.tmp 45)], #[9]⟩),43,none⟩,
 ⟨(some 44),(.move (.tmp 46)),43,none⟩,
 ⟨(some 47),(.extract (.tmp 44) 0),39,none⟩,
 ⟨(some 48),(.extract (.tmp 44) 1),4,none⟩,
 ⟨(some 9),(.alloc 39),0,none⟩,
 ⟨none,(.store 39 (.tmp 9) (.tmp 47)),0,none⟩,
 ⟨(some 10),(.assign (.tmp 48)),4,none⟩])
 (.seq
 (.seq
 (.ops [
 ⟨(some 49),(.load 39 (.tmp 9)),39,none⟩,
 ⟨(some 50),(.load 39 (.tmp 3)),39,none⟩,
 ⟨(some 51),(.call ⟨(.value (.func 20)), #[(.tmp 49),(.tmp 50)], #[39,39]⟩),4,none⟩,
 ⟨(some 52),(.unOp .not 4 (.tmp 51)),4,none⟩,
 ⟨(some 53),(.move (.tmp 52)),4,none⟩,
 ⟨(some 54),(.move (.tmp 10)),4,(some (some 53,false))⟩,
 ⟨(some 55),(.move (.tmp 4)),4,(some (some 53,false))⟩,
 ⟨(some 56),(.binOp .neq 4 (.tmp 54) (.tmp 55) 4),4,(some (some 53,false))⟩,
 ⟨(some 57),(.pick (.tmp 53) (.const (.bool true)) (.tmp 56)),4,none⟩])
 (.cond (.tmp 57)
 (.seq
 (.ops [
 ⟨(some 2),(.assign (.const (.bool false))),4,none⟩])
 .ret)
 .skip))
 (.seq
 (.ops [
 ⟨(some 8),(.assign (.const (.int .i64 1))),3,none⟩])
 (.seq
 (.ops [
 ⟨(some 58),(.load 39 (.tmp 5)),39,none⟩,
 ⟨(some 59),(.move (.tmp 8)),3,none⟩,
 ⟨(some 60),(.call ⟨(.value (.func 24)), #[(.tmp 58),(.tmp 59)], #[39,3]⟩),3,none⟩,
 ⟨(some 8),(.assign (.tmp 60)),3,none⟩])
 (.seq
 (.seq
 (.ops [
 ⟨(some 61),(.move (.tmp 8)),3,none⟩,
 ⟨(some 62),(.binOp .lss 3 (.tmp 61) (.const (.int .i64 0)) 3),4,none⟩])
 (.cond (.tmp 62)
 (.seq
 (.ops [
 ⟨(some 2),(.assign (.const (.bool false))),4,none⟩])
 .ret)
 .skip))
 (.seq
 (.seq
 (.ops [
 ⟨(some 63),(.move (.tmp 8)),3,none⟩,
 ⟨(some 64),(.move (.tmp 7)),3,none⟩,
 ⟨(some 65),(.binOp .neq 3 (.tmp 63) (.tmp 64) 3),4,none⟩])
 (.cond (.tmp 65)
 (.seq
 (.ops [
 ⟨(some 2),(.assign (.const (.bool false))),4,none⟩])
 .ret)
 .skip))
 (.seq
 (.ops [
 ⟨(some 2),(.assign (.const (.bool true))),4,none⟩])
 .ret)))))))))))))))))
theorem A5x:Tryd.f6.body.map (CY lends)=some k6:=by kernel_rfl
theorem ok6:DR Tryd.f6 1=true:=by kernel_rfl
theorem c6{a l:List D}{r:D×List D}(h:Cu Y.env k6 (HZ Ak l.length [ResultVar.tmp 2] r) (entry a l))(ha:a.length=1):Y.call 6 a l=some r:=
 Ah (Y:=Y) rfl Tryd.func6 (ha▸ok6) A5x h
theorem Jd(I8:ByteArray){r:Bool}(h:EG I8=some r):Y.call 6 [D.str I8] []=some (D.bool r,[]):=by
 refine c6 ?_ rfl
 unfold k6
 unfold EG at h
 by_cases e1:1048576<(I8.size:Int)
 ·rw [if_pos e1]at h
  obtain rfl:=Option.some.inj h
  simp (maxDischargeDepth:=9) only [↓AL,AB,AO,Ao,AC,AP,Ap,↓reduceIte,Nat.reduceEqDiff,Nat.reduceLT,Nat.reduceLeDiff,Nat.reduceAdd,Nat.reduceMul,Nat.reduceMod,Nat.reduceDiv,Nat.reducePow,Nat.reduceSub,Nat.reduceBEq,Int.reduceLE,Int.reduceLT,Int.reduceEq,Int.reduceSub,Int.reduceAdd,Int.reduceToNat,Int.reduceNeg,e1]<;>(repeat' apply And.intro)<;>first|rfl|exact⟨_,rfl⟩|exact⟨_,_,rfl⟩|simp [AJ,A7]
 ·rw [if_neg e1]at h
  obtain⟨F7,hl2,h⟩:=BP h
  try dsimp only at h
  have c2:=Md I8 hl2
  obtain⟨CF,hl3,h⟩:=BP h
  try dsimp only at h
  have c3:=Ma I8 hl3
  obtain⟨e4,h⟩:=Cf h
  obtain⟨e5,h⟩:=Cf h
  have c6:=Ja CF.1 CF.2.1 CF.2.2.1 CF.2.2.2.1 F7.1 F7.2.1 F7.2.2.1 F7.2.2.2.1 e4 e5
  by_cases e7:(PW CF.1 CF.2.1 CF.2.2.1 CF.2.2.2.1 F7.1 F7.2.1 F7.2.2.1 F7.2.2.2.1)=true
  ·rw [if_pos e7]at h
   by_cases e8:CF.2.2.2.2=true
   ·rw [if_pos e8]at h
    by_cases e9:F7.2.2.2.2=true
    ·rw [if_pos e9]at h
     obtain⟨Hd,h⟩:=Cf h
     have c11:=KU CF.1 CF.2.1 CF.2.2.1 CF.2.2.2.1 (1:Int) e4 e5 Hd
     obtain⟨Rc,hl12,h⟩:=BP h
     try dsimp only at h
     have c12:=Jb CF.1 CF.2.1 (Dz (1:Int) CF.2.2.1) (Dz ((1:Int)+GU CF.2.2.1) CF.2.2.2.1) (1:Int) hl12
     by_cases e13:Rc<0
     ·rw [if_pos e13]at h
      obtain rfl:=Option.some.inj h
      simp (maxDischargeDepth:=9) only [↓AL,AB,AO,Ao,AC,AP,Ap,↓reduceIte,Nat.reduceEqDiff,Nat.reduceLT,Nat.reduceLeDiff,Nat.reduceAdd,Nat.reduceMul,Nat.reduceMod,Nat.reduceDiv,Nat.reducePow,Nat.reduceSub,Nat.reduceBEq,Int.reduceLE,Int.reduceLT,Int.reduceEq,Int.reduceSub,Int.reduceAdd,Int.reduceToNat,Int.reduceNeg,e1,c2,c3,e4,e5,c6,e7,e8,e9,Hd.1,Hd.2,c11,c12,e13]<;>(repeat' apply And.intro)<;>first|rfl|exact⟨_,rfl⟩|exact⟨_,_,rfl⟩|simp [AJ,A7]
     ·rw [if_neg e13]at h
      by_cases e14:Rc=((1:Int)+GU CF.2.2.1+GU CF.2.2.2.1)
      ·rw [if_pos e14]at h
       have c15:=Ja CF.1 CF.2.1 CF.2.2.1 CF.2.2.2.1 F7.1 F7.2.1 F7.2.2.1 F7.2.2.2.1 e4 e5
       obtain rfl:=Option.some.inj h
       simp (maxDischargeDepth:=9) only [↓AL,AB,AO,Ao,AC,AP,Ap,↓reduceIte,Nat.reduceEqDiff,Nat.reduceLT,Nat.reduceLeDiff,Nat.reduceAdd,Nat.reduceMul,Nat.reduceMod,Nat.reduceDiv,Nat.reducePow,Nat.reduceSub,Nat.reduceBEq,Int.reduceLE,Int.reduceLT,Int.reduceEq,Int.reduceSub,Int.reduceAdd,Int.reduceToNat,Int.reduceNeg,e1,c2,c3,e4,e5,c6,e7,e8,e9,Hd.1,Hd.2,c11,c12,e13,decide_eq_true e14,c15]<;>(repeat' apply And.intro)<;>first|rfl|exact⟨_,rfl⟩|exact⟨_,_,rfl⟩|simp [AJ,A7]
      ·rw [if_neg e14]at h
       obtain rfl:=Option.some.inj h
       simp (maxDischargeDepth:=9) only [↓AL,AB,AO,Ao,AC,AP,Ap,↓reduceIte,Nat.reduceEqDiff,Nat.reduceLT,Nat.reduceLeDiff,Nat.reduceAdd,Nat.reduceMul,Nat.reduceMod,Nat.reduceDiv,Nat.reducePow,Nat.reduceSub,Nat.reduceBEq,Int.reduceLE,Int.reduceLT,Int.reduceEq,Int.reduceSub,Int.reduceAdd,Int.reduceToNat,Int.reduceNeg,e1,c2,c3,e4,e5,c6,e7,e8,e9,Hd.1,Hd.2,c11,c12,e13,e14]<;>(repeat' apply And.intro)<;>first|rfl|exact⟨_,rfl⟩|exact⟨_,_,rfl⟩|simp [AJ,A7]
    ·rw [if_neg e9]at h
     have e9f:F7.2.2.2.2=false:=Bool.eq_false_iff.mpr e9
     obtain rfl:=Option.some.inj h
     simp (maxDischargeDepth:=9) only [↓AL,AB,AO,Ao,AC,AP,Ap,↓reduceIte,Nat.reduceEqDiff,Nat.reduceLT,Nat.reduceLeDiff,Nat.reduceAdd,Nat.reduceMul,Nat.reduceMod,Nat.reduceDiv,Nat.reducePow,Nat.reduceSub,Nat.reduceBEq,Int.reduceLE,Int.reduceLT,Int.reduceEq,Int.reduceSub,Int.reduceAdd,Int.reduceToNat,Int.reduceNeg,e1,c2,c3,e4,e5,c6,e7,e8,e9f]<;>(repeat' apply And.intro)<;>first|rfl|exact⟨_,rfl⟩|exact⟨_,_,rfl⟩|simp [AJ,A7]
   ·rw [if_neg e8]at h
    have e8f:CF.2.2.2.2=false:=Bool.eq_false_iff.mpr e8
    by_cases e9:F7.2.2.2.2=true
    ·rw [if_pos e9]at h
     obtain rfl:=Option.some.inj h
     simp (maxDischargeDepth:=9) only [↓AL,AB,AO,Ao,AC,AP,Ap,↓reduceIte,Nat.reduceEqDiff,Nat.reduceLT,Nat.reduceLeDiff,Nat.reduceAdd,Nat.reduceMul,Nat.reduceMod,Nat.reduceDiv,Nat.reducePow,Nat.reduceSub,Nat.reduceBEq,Int.reduceLE,Int.reduceLT,Int.reduceEq,Int.reduceSub,Int.reduceAdd,Int.reduceToNat,Int.reduceNeg,e1,c2,c3,e4,e5,c6,e7,e8f,e9]<;>(repeat' apply And.intro)<;>first|rfl|exact⟨_,rfl⟩|exact⟨_,_,rfl⟩|simp [AJ,A7]
    ·rw [if_neg e9]at h
     have e9f:F7.2.2.2.2=false:=Bool.eq_false_iff.mpr e9
     obtain⟨Hd,h⟩:=Cf h
     have c11:=KU CF.1 CF.2.1 CF.2.2.1 CF.2.2.2.1 (1:Int) e4 e5 Hd
     obtain⟨Rc,hl12,h⟩:=BP h
     try dsimp only at h
     have c12:=Jb CF.1 CF.2.1 (Dz (1:Int) CF.2.2.1) (Dz ((1:Int)+GU CF.2.2.1) CF.2.2.2.1) (1:Int) hl12
     by_cases e13:Rc<0
     ·rw [if_pos e13]at h
      obtain rfl:=Option.some.inj h
      simp (maxDischargeDepth:=9) only [↓AL,AB,AO,Ao,AC,AP,Ap,↓reduceIte,Nat.reduceEqDiff,Nat.reduceLT,Nat.reduceLeDiff,Nat.reduceAdd,Nat.reduceMul,Nat.reduceMod,Nat.reduceDiv,Nat.reducePow,Nat.reduceSub,Nat.reduceBEq,Int.reduceLE,Int.reduceLT,Int.reduceEq,Int.reduceSub,Int.reduceAdd,Int.reduceToNat,Int.reduceNeg,e1,c2,c3,e4,e5,c6,e7,e8f,e9f,Hd.1,Hd.2,c11,c12,e13]<;>(repeat' apply And.intro)<;>first|rfl|exact⟨_,rfl⟩|exact⟨_,_,rfl⟩|simp [AJ,A7]
     ·rw [if_neg e13]at h
      by_cases e14:Rc=((1:Int)+GU CF.2.2.1+GU CF.2.2.2.1)
      ·rw [if_pos e14]at h
       have c15:=Ja CF.1 CF.2.1 CF.2.2.1 CF.2.2.2.1 F7.1 F7.2.1 F7.2.2.1 F7.2.2.2.1 e4 e5
       obtain rfl:=Option.some.inj h
       simp (maxDischargeDepth:=9) only [↓AL,AB,AO,Ao,AC,AP,Ap,↓reduceIte,Nat.reduceEqDiff,Nat.reduceLT,Nat.reduceLeDiff,Nat.reduceAdd,Nat.reduceMul,Nat.reduceMod,Nat.reduceDiv,Nat.reducePow,Nat.reduceSub,Nat.reduceBEq,Int.reduceLE,Int.reduceLT,Int.reduceEq,Int.reduceSub,Int.reduceAdd,Int.reduceToNat,Int.reduceNeg,e1,c2,c3,e4,e5,c6,e7,e8f,e9f,Hd.1,Hd.2,c11,c12,e13,decide_eq_true e14,c15]<;>(repeat' apply And.intro)<;>first|rfl|exact⟨_,rfl⟩|exact⟨_,_,rfl⟩|simp [AJ,A7]
      ·rw [if_neg e14]at h
       obtain rfl:=Option.some.inj h
       simp (maxDischargeDepth:=9) only [↓AL,AB,AO,Ao,AC,AP,Ap,↓reduceIte,Nat.reduceEqDiff,Nat.reduceLT,Nat.reduceLeDiff,Nat.reduceAdd,Nat.reduceMul,Nat.reduceMod,Nat.reduceDiv,Nat.reducePow,Nat.reduceSub,Nat.reduceBEq,Int.reduceLE,Int.reduceLT,Int.reduceEq,Int.reduceSub,Int.reduceAdd,Int.reduceToNat,Int.reduceNeg,e1,c2,c3,e4,e5,c6,e7,e8f,e9f,Hd.1,Hd.2,c11,c12,e13,e14]<;>(repeat' apply And.intro)<;>first|rfl|exact⟨_,rfl⟩|exact⟨_,_,rfl⟩|simp [AJ,A7]
  ·rw [if_neg e7]at h
   have e7f:(PW CF.1 CF.2.1 CF.2.2.1 CF.2.2.2.1 F7.1 F7.2.1 F7.2.2.1 F7.2.2.2.1)=false:=Bool.eq_false_iff.mpr e7
   obtain rfl:=Option.some.inj h
   simp (maxDischargeDepth:=9) only [↓AL,AB,AO,Ao,AC,AP,Ap,↓reduceIte,Nat.reduceEqDiff,Nat.reduceLT,Nat.reduceLeDiff,Nat.reduceAdd,Nat.reduceMul,Nat.reduceMod,Nat.reduceDiv,Nat.reducePow,Nat.reduceSub,Nat.reduceBEq,Int.reduceLE,Int.reduceLT,Int.reduceEq,Int.reduceSub,Int.reduceAdd,Int.reduceToNat,Int.reduceNeg,e1,c2,c3,e4,e5,c6,e7f]<;>(repeat' apply And.intro)<;>first|rfl|exact⟨_,rfl⟩|exact⟨_,_,rfl⟩|simp [AJ,A7]
end Go.Proofs.YtaogbcdlpgfplaaDoor
