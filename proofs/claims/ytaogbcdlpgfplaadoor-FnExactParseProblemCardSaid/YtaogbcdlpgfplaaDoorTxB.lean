/- Texts of problems read, lifted. Conditions: none. -/
import Derived.Test.YtaogbcdlpgfplaaDoorL6
import Derived.Test.YtaogbcdlpgfplaaDoorTxV
namespace Go.Proofs.YtaogbcdlpgfplaaDoor
open Go Dv
set_option linter.unusedSimpArgs false
set_option linter.unusedVariables false
set_option maxRecDepth 100000
set_option maxHeartbeats 4000000
noncomputable def Ba(s_:ByteArray)(suffix:ByteArray):Option (Bool):=
 if(suffix.size:Int)≤(s_.size:Int)then
  ck (0≤IntKind.i64.wrap ((s_.size:Int)-(suffix.size:Int)))<|
  ck ((IntKind.i64.wrap ((s_.size:Int)-(suffix.size:Int))).toNat≤s_.size∧s_.size≤s_.size)<|
  some ((s_.extract ((IntKind.i64.wrap ((s_.size:Int)-(suffix.size:Int))).toNat) s_.size).toList==suffix.toList)
 else
  some false
def wR:SC:=
 .seq
 (.ops [
 ⟨(some 4),(.assign (.const (.bool false))),4,none⟩])
 (.seq
 (.ops [
 ⟨(some 5),(.move (.tmp 0)),9,none⟩,
 ⟨(some 6),(.call ⟨(.builtin .len), #[(.tmp 5)], #[9]⟩),3,none⟩,
 ⟨(some 7),(.move (.tmp 1)),9,none⟩,
 ⟨(some 8),(.call ⟨(.builtin .len), #[(.tmp 7)], #[9]⟩),3,none⟩,
 ⟨(some 9),(.binOp .geq 3 (.tmp 6) (.tmp 8) 3),4,none⟩,
 ⟨(some 10),(.move (.tmp 9)),4,none⟩,
 ⟨(some 11),(.move (.tmp 0)),9,(some (some 10,true))⟩,
 ⟨(some 12),(.move (.tmp 0)),9,(some (some 10,true))⟩,
 ⟨(some 13),(.call ⟨(.builtin .len), #[(.tmp 12)], #[9]⟩),3,(some (some 10,true))⟩,
 ⟨(some 14),(.move (.tmp 1)),9,(some (some 10,true))⟩,
 ⟨(some 15),(.call ⟨(.builtin .len), #[(.tmp 14)], #[9]⟩),3,(some (some 10,true))⟩,
 ⟨(some 16),(.binOp .sub 3 (.tmp 13) (.tmp 15) 3),3,(some (some 10,true))⟩,
 ⟨(some 17),(.slice 9 (.tmp 11) (some (.tmp 16)) none none),9,(some (some 10,true))⟩,
 ⟨(some 18),(.move (.tmp 1)),9,(some (some 10,true))⟩,
 ⟨(some 19),(.binOp .eql 9 (.tmp 17) (.tmp 18) 9),4,(some (some 10,true))⟩,
 ⟨(some 20),(.pick (.tmp 10) (.tmp 19) (.const (.bool false))),4,none⟩,
 ⟨(some 4),(.assign (.tmp 20)),4,none⟩])
 .ret)
theorem mD:Tryd.f110.body.map (CY lends)=some wR:=by kernel_rfl
theorem A5w:DR Tryd.f110 2=true:=by kernel_rfl
theorem ACy{a l:List D}{r:D×List D}(h:Cu Y.env wR (HZ Ak l.length [ResultVar.tmp 4] r) (entry a l))(ha:a.length=2):Y.call 110 a l=some r:=
 Ah (Y:=Y) rfl Tryd.func110 (ha▸A5w) mD h
theorem GN(s_:ByteArray)(suffix:ByteArray){r:Bool}(h:Ba s_ suffix=some r):Y.call 110 [D.str s_,D.str suffix] []=some (D.bool r,[]):=by
 refine ACy ?_ rfl
 unfold wR
 unfold Ba at h
 by_cases e1:(suffix.size:Int)≤(s_.size:Int)
 ·rw [if_pos e1]at h
  obtain⟨e2,h⟩:=Cf h
  obtain⟨e3,h⟩:=Cf h
  obtain rfl:=Option.some.inj h
  simp (maxDischargeDepth:=9) only [↓AL,AB,AO,Ao,AC,AP,Ap,↓reduceIte,Nat.reduceEqDiff,Nat.reduceLT,Nat.reduceLeDiff,Nat.reduceAdd,Nat.reduceMul,Nat.reduceMod,Nat.reduceDiv,Nat.reducePow,Nat.reduceSub,Nat.reduceBEq,Int.reduceLE,Int.reduceLT,Int.reduceEq,Int.reduceSub,Int.reduceAdd,Int.reduceToNat,Int.reduceNeg,e1,e2,e3.1,e3.2]<;>(repeat' apply And.intro)<;>first|rfl|exact⟨_,rfl⟩|exact⟨_,_,rfl⟩|simp [AJ,A7]
 ·rw [if_neg e1]at h
  obtain rfl:=Option.some.inj h
  simp (maxDischargeDepth:=9) only [↓AL,AB,AO,Ao,AC,AP,Ap,↓reduceIte,Nat.reduceEqDiff,Nat.reduceLT,Nat.reduceLeDiff,Nat.reduceAdd,Nat.reduceMul,Nat.reduceMod,Nat.reduceDiv,Nat.reducePow,Nat.reduceSub,Nat.reduceBEq,Int.reduceLE,Int.reduceLT,Int.reduceEq,Int.reduceSub,Int.reduceAdd,Int.reduceToNat,Int.reduceNeg,e1]<;>(repeat' apply And.intro)<;>first|rfl|exact⟨_,rfl⟩|exact⟨_,_,rfl⟩|simp [AJ,A7]
noncomputable def Bu(s_:ByteArray)(suffix:ByteArray):Option (ByteArray×Bool):=
 (Ba s_ suffix).bind fun Oq=>
 if Oq=true then
  ck (0≤IntKind.i64.wrap ((s_.size:Int)-(suffix.size:Int)))<|
  ck (0≤(IntKind.i64.wrap ((s_.size:Int)-(suffix.size:Int))).toNat∧(IntKind.i64.wrap ((s_.size:Int)-(suffix.size:Int))).toNat≤s_.size)<|
  some ((s_.extract 0 ((IntKind.i64.wrap ((s_.size:Int)-(suffix.size:Int))).toNat)),true)
 else
  some (s_,false)
def k91:SC:=
 .seq
 (.ops [
 ⟨(some 4),(.assign (.const (.string {data:= #[]}))),9,none⟩,
 ⟨(some 5),(.assign (.const (.bool false))),4,none⟩])
 (.seq
 (.seq
 (.ops [
 ⟨(some 6),(.move (.tmp 0)),9,none⟩,
 ⟨(some 7),(.move (.tmp 1)),9,none⟩,
 ⟨(some 8),(.call ⟨(.value (.func 110)), #[(.tmp 6),(.tmp 7)], #[9,9]⟩),4,none⟩,
 ⟨(some 9),(.unOp .not 4 (.tmp 8)),4,none⟩])
 (.cond (.tmp 9)
 (.seq
 (.ops [
 ⟨(some 10),(.move (.tmp 0)),9,none⟩,
 ⟨(some 4),(.assign (.tmp 10)),9,none⟩,
 ⟨(some 5),(.assign (.const (.bool false))),4,none⟩])
 .ret)
 .skip))
 (.seq
 (.ops [
 ⟨(some 11),(.move (.tmp 0)),9,none⟩,
 ⟨(some 12),(.move (.tmp 0)),9,none⟩,
 ⟨(some 13),(.call ⟨(.builtin .len), #[(.tmp 12)], #[9]⟩),3,none⟩,
 ⟨(some 14),(.move (.tmp 1)),9,none⟩,
 ⟨(some 15),(.call ⟨(.builtin .len), #[(.tmp 14)], #[9]⟩),3,none⟩,
 ⟨(some 16),(.binOp .sub 3 (.tmp 13) (.tmp 15) 3),3,none⟩,
 ⟨(some 17),(.slice 9 (.tmp 11) none (some (.tmp 16)) none),9,none⟩,
 ⟨(some 4),(.assign (.tmp 17)),9,none⟩,
 ⟨(some 5),(.assign (.const (.bool true))),4,none⟩])
 .ret))
theorem wS:Tryd.f91.body.map (CY lends)=some k91:=by kernel_rfl
theorem AD0:DR Tryd.f91 2=true:=by kernel_rfl
theorem c91{a l:List D}{r:D×List D}(h:Cu Y.env k91 (HZ Ak l.length [ResultVar.tmp 4,ResultVar.tmp 5] r) (entry a l))(ha:a.length=2):Y.call 91 a l=some r:=
 Ah (Y:=Y) rfl Tryd.func91 (ha▸AD0) wS h
theorem GQ(s_:ByteArray)(suffix:ByteArray){r:ByteArray×Bool}(h:Bu s_ suffix=some r):Y.call 91 [D.str s_,D.str suffix] []=some (D.tup [D.str r.1,D.bool r.2],[]):=by
 refine c91 ?_ rfl
 unfold k91
 unfold Bu at h
 obtain⟨Oq,hl1,h⟩:=BP h
 try dsimp only at h
 have c1:=GN s_ suffix hl1
 by_cases e2:Oq=true
 ·rw [if_pos e2]at h
  obtain⟨e3,h⟩:=Cf h
  obtain⟨e4,h⟩:=Cf h
  obtain rfl:=Option.some.inj h
  simp (maxDischargeDepth:=9) only [↓AL,AB,AO,Ao,AC,AP,Ap,↓reduceIte,Nat.reduceEqDiff,Nat.reduceLT,Nat.reduceLeDiff,Nat.reduceAdd,Nat.reduceMul,Nat.reduceMod,Nat.reduceDiv,Nat.reducePow,Nat.reduceSub,Nat.reduceBEq,Int.reduceLE,Int.reduceLT,Int.reduceEq,Int.reduceSub,Int.reduceAdd,Int.reduceToNat,Int.reduceNeg,c1,e2,e3,e4.1,e4.2]<;>(repeat' apply And.intro)<;>first|rfl|exact⟨_,rfl⟩|exact⟨_,_,rfl⟩|simp [AJ,A7]
 ·rw [if_neg e2]at h
  have e2f:Oq=false:=Bool.eq_false_iff.mpr e2
  obtain rfl:=Option.some.inj h
  simp (maxDischargeDepth:=9) only [↓AL,AB,AO,Ao,AC,AP,Ap,↓reduceIte,Nat.reduceEqDiff,Nat.reduceLT,Nat.reduceLeDiff,Nat.reduceAdd,Nat.reduceMul,Nat.reduceMod,Nat.reduceDiv,Nat.reducePow,Nat.reduceSub,Nat.reduceBEq,Int.reduceLE,Int.reduceLT,Int.reduceEq,Int.reduceSub,Int.reduceAdd,Int.reduceToNat,Int.reduceNeg,c1,e2f]<;>(repeat' apply And.intro)<;>first|rfl|exact⟨_,rfl⟩|exact⟨_,_,rfl⟩|simp [AJ,A7]
noncomputable def Ec(s_:ByteArray)(suffix:ByteArray):Option (ByteArray×Bool):=
 (Bu s_ suffix).bind fun Oq=>
 some (Oq.1,Oq.2)
def k71:SC:=
 .seq
 (.ops [
 ⟨(some 4),(.assign (.const (.string {data:= #[]}))),9,none⟩,
 ⟨(some 5),(.assign (.const (.bool false))),4,none⟩])
 (.seq
 (.ops [
 ⟨(some 6),(.move (.tmp 0)),9,none⟩,
 ⟨(some 7),(.move (.tmp 1)),9,none⟩,
 ⟨(some 8),(.call ⟨(.value (.func 91)), #[(.tmp 6),(.tmp 7)], #[9,9]⟩),24,none⟩,
 ⟨(some 9),(.extract (.tmp 8) 0),9,none⟩,
 ⟨(some 10),(.extract (.tmp 8) 1),4,none⟩,
 ⟨(some 4),(.assign (.tmp 9)),9,none⟩,
 ⟨(some 5),(.assign (.tmp 10)),4,none⟩])
 .ret)
theorem wT:Tryd.f71.body.map (CY lends)=some k71:=by kernel_rfl
theorem AD2:DR Tryd.f71 2=true:=by kernel_rfl
theorem c71{a l:List D}{r:D×List D}(h:Cu Y.env k71 (HZ Ak l.length [ResultVar.tmp 4,ResultVar.tmp 5] r) (entry a l))(ha:a.length=2):Y.call 71 a l=some r:=
 Ah (Y:=Y) rfl Tryd.func71 (ha▸AD2) wT h
theorem K8(s_:ByteArray)(suffix:ByteArray){r:ByteArray×Bool}(h:Ec s_ suffix=some r):Y.call 71 [D.str s_,D.str suffix] []=some (D.tup [D.str r.1,D.bool r.2],[]):=by
 refine c71 ?_ rfl
 unfold k71
 unfold Ec at h
 obtain⟨Oq,hl1,h⟩:=BP h
 try dsimp only at h
 have c1:=GQ s_ suffix hl1
 obtain rfl:=Option.some.inj h
 simp (maxDischargeDepth:=9) only [↓AL,AB,AO,Ao,AC,AP,Ap,↓reduceIte,Nat.reduceEqDiff,Nat.reduceLT,Nat.reduceLeDiff,Nat.reduceAdd,Nat.reduceMul,Nat.reduceMod,Nat.reduceDiv,Nat.reducePow,Nat.reduceSub,Nat.reduceBEq,Int.reduceLE,Int.reduceLT,Int.reduceEq,Int.reduceSub,Int.reduceAdd,Int.reduceToNat,Int.reduceNeg,c1]<;>(repeat' apply And.intro)<;>first|rfl|exact⟨_,rfl⟩|exact⟨_,_,rfl⟩|simp [AJ,A7]
noncomputable def I6(s_:ByteArray):Option ((List ByteArray)×Bool):=
 (Ec s_ ({data:= #[10]}:ByteArray)).bind fun Oq=>
 if Oq.2=true then
  ck (Oq.1.size<4294967281∧1≤({data:= #[10]}:ByteArray).size)<|
  some ((Bl Oq.1 ({data:= #[10]}:ByteArray)),true)
 else
  some ([],false)
def k47:SC:=
 .seq
 (.ops [
 ⟨(some 2),(.assign (.const (.slice none 0 0))),52,none⟩,
 ⟨(some 3),(.assign (.const (.bool false))),4,none⟩])
 (.seq
 (.ops [
 ⟨(some 7),(.move (.tmp 0)),9,none⟩,
 ⟨(some 8),(.call ⟨(.value (.func 71)), #[(.tmp 7),(.const (.string {data:= #[10]}))], #[9,9]⟩),24,none⟩,
 ⟨(some 6),(.move (.tmp 8)),24,none⟩,
 ⟨(some 9),(.extract (.tmp 6) 0),9,none⟩,
 ⟨(some 10),(.extract (.tmp 6) 1),4,none⟩,
 ⟨(some 4),(.assign (.tmp 9)),9,none⟩,
 ⟨(some 5),(.assign (.tmp 10)),4,none⟩])
 (.seq
 (.seq
 (.ops [
 ⟨(some 11),(.move (.tmp 5)),4,none⟩,
 ⟨(some 12),(.unOp .not 4 (.tmp 11)),4,none⟩])
 (.cond (.tmp 12)
 (.seq
 (.ops [
 ⟨(some 2),(.assign (.const (.slice none 0 0))),52,none⟩,
 ⟨(some 3),(.assign (.const (.bool false))),4,none⟩])
 .ret)
 .skip))
 (.seq
 (.ops [
 ⟨(some 13),(.move (.tmp 4)),9,none⟩,
 ⟨(some 14),(.call ⟨(.value (.func 36)), #[(.tmp 13),(.const (.string {data:= #[10]}))], #[9,9]⟩),52,none⟩,
 ⟨(some 2),(.assign (.tmp 14)),52,none⟩,
 ⟨(some 3),(.assign (.const (.bool true))),4,none⟩])
 .ret)))
theorem wU:Tryd.f47.body.map (CY lends)=some k47:=by kernel_rfl
theorem AD4:DR Tryd.f47 1=true:=by kernel_rfl
theorem c47{a l:List D}{r:D×List D}(h:Cu Y.env k47 (HZ Ak l.length [ResultVar.tmp 2,ResultVar.tmp 3] r) (entry a l))(ha:a.length=1):Y.call 47 a l=some r:=
 Ah (Y:=Y) rfl Tryd.func47 (ha▸AD4) wU h
theorem O9(s_:ByteArray){r:(List ByteArray)×Bool}(h:I6 s_=some r):Y.call 47 [D.str s_] []=some (D.tup [D.own 9 (AJ D.str r.1),D.bool r.2],[]):=by
 refine c47 ?_ rfl
 unfold k47
 unfold I6 at h
 obtain⟨Oq,hl1,h⟩:=BP h
 try dsimp only at h
 have c1:=K8 s_ ({data:= #[10]}:ByteArray) hl1
 by_cases e2:Oq.2=true
 ·rw [if_pos e2]at h
  obtain⟨e3,h⟩:=Cf h
  have c4:=XO Oq.1 ({data:= #[10]}:ByteArray) e3
  obtain rfl:=Option.some.inj h
  simp (maxDischargeDepth:=9) only [↓AL,AB,AO,Ao,AC,AP,Ap,↓reduceIte,Nat.reduceEqDiff,Nat.reduceLT,Nat.reduceLeDiff,Nat.reduceAdd,Nat.reduceMul,Nat.reduceMod,Nat.reduceDiv,Nat.reducePow,Nat.reduceSub,Nat.reduceBEq,Int.reduceLE,Int.reduceLT,Int.reduceEq,Int.reduceSub,Int.reduceAdd,Int.reduceToNat,Int.reduceNeg,c1,e2,e3.1,e3.2,c4]<;>(repeat' apply And.intro)<;>first|rfl|exact⟨_,rfl⟩|exact⟨_,_,rfl⟩|simp [AJ,A7]
 ·rw [if_neg e2]at h
  have e2f:Oq.2=false:=Bool.eq_false_iff.mpr e2
  obtain rfl:=Option.some.inj h
  simp (maxDischargeDepth:=9) only [↓AL,AB,AO,Ao,AC,AP,Ap,↓reduceIte,Nat.reduceEqDiff,Nat.reduceLT,Nat.reduceLeDiff,Nat.reduceAdd,Nat.reduceMul,Nat.reduceMod,Nat.reduceDiv,Nat.reducePow,Nat.reduceSub,Nat.reduceBEq,Int.reduceLE,Int.reduceLT,Int.reduceEq,Int.reduceSub,Int.reduceAdd,Int.reduceToNat,Int.reduceNeg,c1,e2f]<;>(repeat' apply And.intro)<;>first|rfl|exact⟨_,rfl⟩|exact⟨_,_,rfl⟩|simp [AJ,A7]
noncomputable def I7(s_:ByteArray):Option (Int×Bool):=
 if(s_.size:Int)<1 then
  some (0,false)
 else
  if 6<(s_.size:Int)then
   some (0,false)
  else
   (Nu s_).bind fun F7=>
   match F7 with
   | .inl q16_=>
    if q16_<0 then
     some (0,false)
    else
     ck (-9223372036854775808≤q16_∧q16_≤9223372036854775807)<|
     if((G5 q16_).toList==s_.toList)=true then
      some (q16_,true)
     else
      some (0,false)
   | .inr q16_=>
    some (0,false)
def k72:SC:=
 .seq
 (.ops [
 ⟨(some 2),(.assign (.const (.int .i64 0))),3,none⟩,
 ⟨(some 3),(.assign (.const (.bool false))),4,none⟩])
 (.seq
 (.seq
 (.ops [
 ⟨(some 6),(.move (.tmp 0)),9,none⟩,
 ⟨(some 7),(.call ⟨(.builtin .len), #[(.tmp 6)], #[9]⟩),3,none⟩,
 ⟨(some 8),(.binOp .lss 3 (.tmp 7) (.const (.int .i64 1)) 3),4,none⟩,
 ⟨(some 9),(.move (.tmp 8)),4,none⟩,
 ⟨(some 10),(.move (.tmp 0)),9,(some (some 9,false))⟩,
 ⟨(some 11),(.call ⟨(.builtin .len), #[(.tmp 10)], #[9]⟩),3,(some (some 9,false))⟩,
 ⟨(some 12),(.binOp .gtr 3 (.tmp 11) (.const (.int .i64 6)) 3),4,(some (some 9,false))⟩,
 ⟨(some 13),(.pick (.tmp 9) (.const (.bool true)) (.tmp 12)),4,none⟩])
 (.cond (.tmp 13)
 (.seq
 (.ops [
 ⟨(some 2),(.assign (.const (.int .i64 0))),3,none⟩,
 ⟨(some 3),(.assign (.const (.bool false))),4,none⟩])
 .ret)
 .skip))
 (.seq
 (.ops [
 ⟨(some 15),(.move (.tmp 0)),9,none⟩,
 ⟨(some 16),(.call ⟨(.value (.func 38)), #[(.tmp 15)], #[9]⟩),63,none⟩,
 ⟨(some 14),(.move (.tmp 16)),63,none⟩,
 ⟨(some 17),(.extract (.tmp 14) 0),3,none⟩,
 ⟨(some 18),(.extract (.tmp 14) 1),62,none⟩,
 ⟨(some 4),(.assign (.tmp 17)),3,none⟩,
 ⟨(some 5),(.assign (.tmp 18)),62,none⟩])
 (.seq
 (.seq
 (.ops [
 ⟨(some 19),(.move (.tmp 5)),62,none⟩,
 ⟨(some 20),(.binOp .neq 62 (.tmp 19) (.const .nilIface) 62),4,none⟩,
 ⟨(some 21),(.move (.tmp 20)),4,none⟩,
 ⟨(some 22),(.move (.tmp 4)),3,(some (some 21,false))⟩,
 ⟨(some 23),(.binOp .lss 3 (.tmp 22) (.const (.int .i64 0)) 3),4,(some (some 21,false))⟩,
 ⟨(some 24),(.pick (.tmp 21) (.const (.bool true)) (.tmp 23)),4,none⟩,
 ⟨(some 25),(.move (.tmp 24)),4,none⟩,
 ⟨(some 26),(.move (.tmp 4)),3,(some (some 25,false))⟩,
 ⟨(some 27),(.call ⟨(.value (.func 29)), #[(.tmp 26)], #[3]⟩),9,(some (some 25,false))⟩,
 ⟨(some 28),(.move (.tmp 0)),9,(some (some 25,false))⟩,
 ⟨(some 29),(.binOp .neq 9 (.tmp 27) (.tmp 28) 9),4,(some (some 25,false))⟩,
 ⟨(some 30),(.pick (.tmp 25) (.const (.bool true)) (.tmp 29)),4,none⟩])
 (.cond (.tmp 30)
 (.seq
 (.ops [
 ⟨(some 2),(.assign (.const (.int .i64 0))),3,none⟩,
 ⟨(some 3),(.assign (.const (.bool false))),4,none⟩])
 .ret)
 .skip))
 (.seq
 (.ops [
 ⟨(some 31),(.move (.tmp 4)),3,none⟩,
 ⟨(some 2),(.assign (.tmp 31)),3,none⟩,
 ⟨(some 3),(.assign (.const (.bool true))),4,none⟩])
 .ret))))
theorem wV:Tryd.f72.body.map (CY lends)=some k72:=by kernel_rfl
theorem AD6:DR Tryd.f72 1=true:=by kernel_rfl
theorem c72{a l:List D}{r:D×List D}(h:Cu Y.env k72 (HZ Ak l.length [ResultVar.tmp 2,ResultVar.tmp 3] r) (entry a l))(ha:a.length=1):Y.call 72 a l=some r:=
 Ah (Y:=Y) rfl Tryd.func72 (ha▸AD6) wV h
theorem OA(s_:ByteArray){r:Int×Bool}(h:I7 s_=some r):Y.call 72 [D.str s_] []=some (D.tup [D.int .i64 r.1,D.bool r.2],[]):=by
 refine c72 ?_ rfl
 unfold k72
 unfold I7 at h
 by_cases e1:(s_.size:Int)<1
 ·rw [if_pos e1]at h
  obtain rfl:=Option.some.inj h
  simp (maxDischargeDepth:=9) only [↓AL,AB,AO,Ao,AC,AP,Ap,↓reduceIte,Nat.reduceEqDiff,Nat.reduceLT,Nat.reduceLeDiff,Nat.reduceAdd,Nat.reduceMul,Nat.reduceMod,Nat.reduceDiv,Nat.reducePow,Nat.reduceSub,Nat.reduceBEq,Int.reduceLE,Int.reduceLT,Int.reduceEq,Int.reduceSub,Int.reduceAdd,Int.reduceToNat,Int.reduceNeg,e1]<;>(repeat' apply And.intro)<;>first|rfl|exact⟨_,rfl⟩|exact⟨_,_,rfl⟩|simp [AJ,A7]
 ·rw [if_neg e1]at h
  by_cases e2:6<(s_.size:Int)
  ·rw [if_pos e2]at h
   obtain rfl:=Option.some.inj h
   simp (maxDischargeDepth:=9) only [↓AL,AB,AO,Ao,AC,AP,Ap,↓reduceIte,Nat.reduceEqDiff,Nat.reduceLT,Nat.reduceLeDiff,Nat.reduceAdd,Nat.reduceMul,Nat.reduceMod,Nat.reduceDiv,Nat.reducePow,Nat.reduceSub,Nat.reduceBEq,Int.reduceLE,Int.reduceLT,Int.reduceEq,Int.reduceSub,Int.reduceAdd,Int.reduceToNat,Int.reduceNeg,e1,e2]<;>(repeat' apply And.intro)<;>first|rfl|exact⟨_,rfl⟩|exact⟨_,_,rfl⟩|simp [AJ,A7]
  ·rw [if_neg e2]at h
   obtain⟨F7,hl3,h⟩:=BP h
   try dsimp only at h
   have c3:=lU s_ hl3
   rcases F7 with q16_|q16_
   ·dsimp only at h c3
    by_cases e4:q16_<0
    ·rw [if_pos e4]at h
     obtain rfl:=Option.some.inj h
     simp (maxDischargeDepth:=9) only [↓AL,AB,AO,Ao,AC,AP,Ap,↓reduceIte,Nat.reduceEqDiff,Nat.reduceLT,Nat.reduceLeDiff,Nat.reduceAdd,Nat.reduceMul,Nat.reduceMod,Nat.reduceDiv,Nat.reducePow,Nat.reduceSub,Nat.reduceBEq,Int.reduceLE,Int.reduceLT,Int.reduceEq,Int.reduceSub,Int.reduceAdd,Int.reduceToNat,Int.reduceNeg,e1,e2,c3,e4]<;>(repeat' apply And.intro)<;>first|rfl|exact⟨_,rfl⟩|exact⟨_,_,rfl⟩|simp [AJ,A7]
    ·rw [if_neg e4]at h
     obtain⟨e5,h⟩:=Cf h
     have c6:=Zp q16_ e5
     by_cases e7:((G5 q16_).toList==s_.toList)=true
     ·rw [if_pos e7]at h
      obtain rfl:=Option.some.inj h
      simp (maxDischargeDepth:=9) only [↓AL,AB,AO,Ao,AC,AP,Ap,↓reduceIte,Nat.reduceEqDiff,Nat.reduceLT,Nat.reduceLeDiff,Nat.reduceAdd,Nat.reduceMul,Nat.reduceMod,Nat.reduceDiv,Nat.reducePow,Nat.reduceSub,Nat.reduceBEq,Int.reduceLE,Int.reduceLT,Int.reduceEq,Int.reduceSub,Int.reduceAdd,Int.reduceToNat,Int.reduceNeg,e1,e2,c3,e4,e5.1,e5.2,c6,e7]<;>(repeat' apply And.intro)<;>first|rfl|exact⟨_,rfl⟩|exact⟨_,_,rfl⟩|simp [AJ,A7]
     ·rw [if_neg e7]at h
      have e7f:((G5 q16_).toList==s_.toList)=false:=Bool.eq_false_iff.mpr e7
      obtain rfl:=Option.some.inj h
      simp (maxDischargeDepth:=9) only [↓AL,AB,AO,Ao,AC,AP,Ap,↓reduceIte,Nat.reduceEqDiff,Nat.reduceLT,Nat.reduceLeDiff,Nat.reduceAdd,Nat.reduceMul,Nat.reduceMod,Nat.reduceDiv,Nat.reducePow,Nat.reduceSub,Nat.reduceBEq,Int.reduceLE,Int.reduceLT,Int.reduceEq,Int.reduceSub,Int.reduceAdd,Int.reduceToNat,Int.reduceNeg,e1,e2,c3,e4,e5.1,e5.2,c6,e7f]<;>(repeat' apply And.intro)<;>first|rfl|exact⟨_,rfl⟩|exact⟨_,_,rfl⟩|simp [AJ,A7]
   ·dsimp only at h c3
    obtain rfl:=Option.some.inj h
    simp (maxDischargeDepth:=9) only [↓AL,AB,AO,Ao,AC,AP,Ap,↓reduceIte,Nat.reduceEqDiff,Nat.reduceLT,Nat.reduceLeDiff,Nat.reduceAdd,Nat.reduceMul,Nat.reduceMod,Nat.reduceDiv,Nat.reducePow,Nat.reduceSub,Nat.reduceBEq,Int.reduceLE,Int.reduceLT,Int.reduceEq,Int.reduceSub,Int.reduceAdd,Int.reduceToNat,Int.reduceNeg,e1,e2,c3]<;>(repeat' apply And.intro)<;>first|rfl|exact⟨_,rfl⟩|exact⟨_,_,rfl⟩|simp [AJ,A7]
noncomputable def DC(words:List ByteArray)(out:List Int)(Bp:Int):Option (((List Int)×Int)⊕(Unit⊕((List Int)))):=
 if Bp<(words.length:Int)then
  ck (0≤Bp∧Bp.toNat<words.length)<|
  (I7 (words.getD Bp.toNat default)).bind fun jH=>
  if((words.getD Bp.toNat default).toList==({data:= #[42]}:ByteArray).toList)=true then
   ck (out.length+1<1099511627776)<|
   some (Sum.inl ((out++[(-1)]),IntKind.i64.wrap (Bp+1)))
  else
   if jH.2=true then
    ck (out.length+1<1099511627776)<|
    some (Sum.inl ((out++[jH.1]),IntKind.i64.wrap (Bp+1)))
   else
    some (Sum.inr (Sum.inl ()))
 else
  some (Sum.inr (Sum.inr out))
noncomputable def GR(words:List ByteArray)(v:(List Int)×Int):Option (Unit⊕((List Int))):=Jk (fun v=>DC words v.1 v.2) v
noncomputable def Gq(words:List ByteArray):Option ((List Int)×Bool):=
 (GR words ([],0)).bind fun AZ=>
 match AZ with
 | .inl q1000_=>
  some ([],false)
 | .inr q1000_=>
  some (q1000_,true)
def VM:SC:=
 .seq
 (.ops [
 ⟨(some 12),(.binOp .lss 3 (.tmp 11) (.tmp 10) 3),0,none⟩])
 (.seq
 (.cond (.tmp 12)
 .skip
 (.exit 0))
 (.seq
 (.block 1
 (.seq
 (.ops [
 ⟨(some 13),(.indexAddr 52 (.tmp 9) (.tmp 11)),0,none⟩,
 ⟨(some 14),(.load 9 (.tmp 13)),9,none⟩,
 ⟨(some 6),(.assign (.tmp 14)),9,none⟩])
 (.seq
 (.ops [
 ⟨(some 16),(.move (.tmp 6)),9,none⟩,
 ⟨(some 17),(.call ⟨(.value (.func 72)), #[(.tmp 16)], #[9]⟩),93,none⟩,
 ⟨(some 15),(.move (.tmp 17)),93,none⟩,
 ⟨(some 18),(.extract (.tmp 15) 0),3,none⟩,
 ⟨(some 19),(.extract (.tmp 15) 1),4,none⟩,
 ⟨(some 7),(.assign (.tmp 18)),3,none⟩,
 ⟨(some 8),(.assign (.tmp 19)),4,none⟩])
 (.seq
 (.seq
 (.ops [
 ⟨(some 20),(.move (.tmp 6)),9,none⟩,
 ⟨(some 21),(.binOp .eql 9 (.tmp 20) (.const (.string {data:= #[42]})) 9),4,none⟩])
 (.cond (.tmp 21)
 (.ops [
 ⟨(some 7),(.assign (.const (.int .i64 (-1)))),3,none⟩,
 ⟨(some 8),(.assign (.const (.bool true))),4,none⟩])
 .skip))
 (.seq
 (.seq
 (.ops [
 ⟨(some 22),(.move (.tmp 8)),4,none⟩,
 ⟨(some 23),(.unOp .not 4 (.tmp 22)),4,none⟩])
 (.cond (.tmp 23)
 (.seq
 (.ops [
 ⟨(some 2),(.assign (.const (.slice none 0 0))),70,none⟩,
 ⟨(some 3),(.assign (.const (.bool false))),4,none⟩])
 .ret)
 .skip))
 (.ops [
 ⟨(some 24),(.move (.tmp 4)),70,none⟩,
 ⟨(some 25),(.move (.tmp 7)),3,none⟩,
 ⟨(some 26),(.buildSlice 70 1 #[(0,(.tmp 25))]),70,none⟩,
 ⟨(some 27),(.call ⟨(.builtin .append), #[(.tmp 24),(.tmp 26)], #[70,70]⟩),70,none⟩,
 ⟨(some 4),(.assign (.tmp 27)),70,none⟩]))))))
 (.ops [
 ⟨(some 28),(.binOp .add 3 (.tmp 11) (.const (.int .i64 1)) 3),3,none⟩,
 ⟨(some 11),(.move (.tmp 28)),3,none⟩])))
def jI:SC:= .loop VM
def k48:SC:=
 .seq
 (.ops [
 ⟨(some 2),(.assign (.const (.slice none 0 0))),70,none⟩,
 ⟨(some 3),(.assign (.const (.bool false))),4,none⟩])
 (.seq
 (.ops [
 ⟨(some 4),(.assign (.const (.slice none 0 0))),70,none⟩])
 (.seq
 (.seq
 (.ops [
 ⟨(some 9),(.move (.tmp 0)),52,none⟩,
 ⟨(some 10),(.call ⟨(.builtin .len), #[(.tmp 9)], #[52]⟩),3,none⟩,
 ⟨(some 11),(.move (.const (.int .i64 0))),3,none⟩])
 (.block 0
 jI))
 (.seq
 (.ops [
 ⟨(some 29),(.move (.tmp 4)),70,none⟩,
 ⟨(some 2),(.assign (.tmp 29)),70,none⟩,
 ⟨(some 3),(.assign (.const (.bool true))),4,none⟩])
 .ret)))
theorem wW:Tryd.f48.body.map (CY lends)=some k48:=by kernel_rfl
theorem AD8:DR Tryd.f48 1=true:=by kernel_rfl
theorem c48{a l:List D}{r:D×List D}(h:Cu Y.env k48 (HZ Ak l.length [ResultVar.tmp 2,ResultVar.tmp 3] r) (entry a l))(ha:a.length=1):Y.call 48 a l=some r:=
 Ah (Y:=Y) rfl Tryd.func48 (ha▸AD8) wW h
def CB(words:List ByteArray)(out:List Int)(Bp:Int)(s:St):Prop:=s.v 4=D.own 3 (AJ (D.int .i64) out)∧s.v 9=D.sl 9 (AJ D.str words)∧s.v 10=D.int .i64 (words.length:Int)∧s.v 11=D.int .i64 Bp
def CE(words:List ByteArray)(r:Unit⊕((List Int)))(ex:Ex)(s:St):Prop:=match r with
 | .inl q=>ex= .ret∧s.v 2=D.own 3 []∧s.v 3=D.bool false
 | .inr q=>ex= .exit 0∧s.v 4=D.own 3 (AJ (D.int .i64) q)
theorem MZ(words:List ByteArray){v:(List Int)×Int}{s:St}{r:Unit⊕((List Int))}(h:GR words v=some r)(hM:CB words v.1 v.2 s):Cu Y.env jI (CE words r) s:=by
 unfold GR at h
 refine DL (c:=VM) (fun v=>DC words v.1 v.2) (fun v s=>CB words v.1 v.2 s) (CE words) ?_ h hM
 clear h hM s v r
 intro v s o hM h
 obtain⟨out,Bp⟩:=v
 dsimp only at h hM
 unfold DC at h
 unfold CB at hM
 obtain⟨m0,m1,m2,m3⟩:=hM
 unfold VM
 by_cases e1:Bp<(words.length:Int)
 ·rw [if_pos e1]at h
  obtain⟨e2,h⟩:=Cf h
  obtain⟨jH,hl3,h⟩:=BP h
  try dsimp only at h
  have c3:=OA (words.getD Bp.toNat default) hl3
  by_cases e4:((words.getD Bp.toNat default).toList==({data:= #[42]}:ByteArray).toList)=true
  ·rw [if_pos e4]at h
   obtain⟨e5,h⟩:=Cf h
   obtain rfl:=Option.some.inj h
   simp (maxDischargeDepth:=9) only [↓AL,AB,AO,Ao,AC,AP,Ap,↓reduceIte,Nat.reduceEqDiff,Nat.reduceLT,Nat.reduceLeDiff,Nat.reduceAdd,Nat.reduceMul,Nat.reduceMod,Nat.reduceDiv,Nat.reducePow,Nat.reduceSub,Nat.reduceBEq,Int.reduceLE,Int.reduceLT,Int.reduceEq,Int.reduceSub,Int.reduceAdd,Int.reduceToNat,Int.reduceNeg,m0,m1,m2,m3,e1,e2.1,e2.2,c3,e4,e5,CB,CE,De,Df,Dh]<;>(repeat' apply And.intro)<;>first|rfl|exact⟨_,rfl⟩|exact⟨_,_,rfl⟩|simp [AJ,A7]
  ·rw [if_neg e4]at h
   have e4f:((words.getD Bp.toNat default).toList==({data:= #[42]}:ByteArray).toList)=false:=Bool.eq_false_iff.mpr e4
   by_cases e5:jH.2=true
   ·rw [if_pos e5]at h
    obtain⟨e6,h⟩:=Cf h
    obtain rfl:=Option.some.inj h
    simp (maxDischargeDepth:=9) only [↓AL,AB,AO,Ao,AC,AP,Ap,↓reduceIte,Nat.reduceEqDiff,Nat.reduceLT,Nat.reduceLeDiff,Nat.reduceAdd,Nat.reduceMul,Nat.reduceMod,Nat.reduceDiv,Nat.reducePow,Nat.reduceSub,Nat.reduceBEq,Int.reduceLE,Int.reduceLT,Int.reduceEq,Int.reduceSub,Int.reduceAdd,Int.reduceToNat,Int.reduceNeg,m0,m1,m2,m3,e1,e2.1,e2.2,c3,e4f,e5,e6,CB,CE,De,Df,Dh]<;>(repeat' apply And.intro)<;>first|rfl|exact⟨_,rfl⟩|exact⟨_,_,rfl⟩|simp [AJ,A7]
   ·rw [if_neg e5]at h
    have e5f:jH.2=false:=Bool.eq_false_iff.mpr e5
    obtain rfl:=Option.some.inj h
    simp (maxDischargeDepth:=9) only [↓AL,AB,AO,Ao,AC,AP,Ap,↓reduceIte,Nat.reduceEqDiff,Nat.reduceLT,Nat.reduceLeDiff,Nat.reduceAdd,Nat.reduceMul,Nat.reduceMod,Nat.reduceDiv,Nat.reducePow,Nat.reduceSub,Nat.reduceBEq,Int.reduceLE,Int.reduceLT,Int.reduceEq,Int.reduceSub,Int.reduceAdd,Int.reduceToNat,Int.reduceNeg,m0,m1,m2,m3,e1,e2.1,e2.2,c3,e4f,e5f,CB,CE,De,Df,Dh]<;>(repeat' apply And.intro)<;>first|rfl|exact⟨_,rfl⟩|exact⟨_,_,rfl⟩|simp [AJ,A7]
 ·rw [if_neg e1]at h
  obtain rfl:=Option.some.inj h
  simp (maxDischargeDepth:=9) only [↓AL,AB,AO,Ao,AC,AP,Ap,↓reduceIte,Nat.reduceEqDiff,Nat.reduceLT,Nat.reduceLeDiff,Nat.reduceAdd,Nat.reduceMul,Nat.reduceMod,Nat.reduceDiv,Nat.reducePow,Nat.reduceSub,Nat.reduceBEq,Int.reduceLE,Int.reduceLT,Int.reduceEq,Int.reduceSub,Int.reduceAdd,Int.reduceToNat,Int.reduceNeg,m0,m1,m2,m3,e1,CB,CE,De,Df,Dh]<;>(repeat' apply And.intro)<;>first|rfl|exact⟨_,rfl⟩|exact⟨_,_,rfl⟩|simp [AJ,A7]
theorem NF(words:List ByteArray){r:(List Int)×Bool}(h:Gq words=some r):Y.call 48 [D.sl 9 (AJ D.str words)] []=some (D.tup [D.own 3 (AJ (D.int .i64) r.1),D.bool r.2],[]):=by
 refine c48 ?_ rfl
 unfold k48
 unfold Gq at h
 obtain⟨AZ,hl2,h⟩:=BP h
 try dsimp only at h
 simp (maxDischargeDepth:=9) only [↓AL,AB,AO,Ao,AC,AP,Ap,↓reduceIte,Nat.reduceEqDiff,Nat.reduceLT,Nat.reduceLeDiff,Nat.reduceAdd,Nat.reduceMul,Nat.reduceMod,Nat.reduceDiv,Nat.reducePow,Nat.reduceSub,Nat.reduceBEq,Int.reduceLE,Int.reduceLT,Int.reduceEq,Int.reduceSub,Int.reduceAdd,Int.reduceToNat,Int.reduceNeg]
 refine C8 (MZ words hl2 ?_) ?_
 ·simp (maxDischargeDepth:=9) only [↓AL,AB,AO,Ao,AC,AP,Ap,↓reduceIte,Nat.reduceEqDiff,Nat.reduceLT,Nat.reduceLeDiff,Nat.reduceAdd,Nat.reduceMul,Nat.reduceMod,Nat.reduceDiv,Nat.reducePow,Nat.reduceSub,Nat.reduceBEq,Int.reduceLE,Int.reduceLT,Int.reduceEq,Int.reduceSub,Int.reduceAdd,Int.reduceToNat,Int.reduceNeg,CB]<;>(repeat' apply And.intro)<;>first|rfl|exact⟨_,rfl⟩|exact⟨_,_,rfl⟩|simp [AJ,A7]
 ·intro ex2 s2 hX2
  rcases AZ with q1000_|q1000_
  ·unfold CE at hX2
   dsimp only at hX2 h
   obtain⟨rfl,n2_0,n2_1⟩:=hX2
   obtain rfl:=Option.some.inj h
   simp (maxDischargeDepth:=9) only [↓AL,AB,AO,Ao,AC,AP,Ap,↓reduceIte,Nat.reduceEqDiff,Nat.reduceLT,Nat.reduceLeDiff,Nat.reduceAdd,Nat.reduceMul,Nat.reduceMod,Nat.reduceDiv,Nat.reducePow,Nat.reduceSub,Nat.reduceBEq,Int.reduceLE,Int.reduceLT,Int.reduceEq,Int.reduceSub,Int.reduceAdd,Int.reduceToNat,Int.reduceNeg,n2_0,n2_1]<;>(repeat' apply And.intro)<;>first|rfl|exact⟨_,rfl⟩|exact⟨_,_,rfl⟩|simp [AJ,A7]
  ·unfold CE at hX2
   dsimp only at hX2 h
   obtain⟨rfl,n2_0⟩:=hX2
   obtain rfl:=Option.some.inj h
   simp (maxDischargeDepth:=9) only [↓AL,AB,AO,Ao,AC,AP,Ap,↓reduceIte,Nat.reduceEqDiff,Nat.reduceLT,Nat.reduceLeDiff,Nat.reduceAdd,Nat.reduceMul,Nat.reduceMod,Nat.reduceDiv,Nat.reducePow,Nat.reduceSub,Nat.reduceBEq,Int.reduceLE,Int.reduceLT,Int.reduceEq,Int.reduceSub,Int.reduceAdd,Int.reduceToNat,Int.reduceNeg,n2_0]<;>(repeat' apply And.intro)<;>first|rfl|exact⟨_,rfl⟩|exact⟨_,_,rfl⟩|simp [AJ,A7]
noncomputable def CP(I8:ByteArray)(DY:(List ByteArray)×Bool)(t6_0:Int)(t6_1:Int)(t6_2:List (List Int))(t6_3:List (List Int))(G8:Int):Option ((Int×Int×(List (List Int))×(List (List Int))×Int)⊕(Unit⊕(Int×Int×(List (List Int))×(List (List Int))))):=
 if G8<(DY.1.length:Int)then
  ck (0≤G8∧G8.toNat<DY.1.length)<|
  ck ((DY.1.getD G8.toNat default).size<4294967281∧1≤({data:= #[32]}:ByteArray).size)<|
  ck (1≤(Bl (DY.1.getD G8.toNat default) ({data:= #[32]}:ByteArray)).length)<|
  (Gq (((Bl (DY.1.getD G8.toNat default) ({data:= #[32]}:ByteArray)).drop 1).take ((Bl (DY.1.getD G8.toNat default) ({data:= #[32]}:ByteArray)).length-1))).bind fun OB=>
  if OB.2=true then
   ck (0<(Bl (DY.1.getD G8.toNat default) ({data:= #[32]}:ByteArray)).length)<|
   if(((Bl (DY.1.getD G8.toNat default) ({data:= #[32]}:ByteArray)).getD 0 default).toList==({data:= #[112,114,111,98,108,101,109]}:ByteArray).toList)=true then
    if(OB.1.length:Int)=2 then
     ck (0<OB.1.length)<|
     ck (1<OB.1.length)<|
     some (Sum.inl ((OB.1.getD 0 default),(OB.1.getD 1 default),t6_2,t6_3,IntKind.i64.wrap (G8+1)))
    else
     if(((Bl (DY.1.getD G8.toNat default) ({data:= #[32]}:ByteArray)).getD 0 default).toList==({data:= #[110,111,100,101]}:ByteArray).toList)=true then
      ck (t6_2.length+1<1099511627776)<|
      some (Sum.inl (t6_0,t6_1,(t6_2++[OB.1]),t6_3,IntKind.i64.wrap (G8+1)))
     else
      if(((Bl (DY.1.getD G8.toNat default) ({data:= #[32]}:ByteArray)).getD 0 default).toList==({data:= #[101,100,103,101]}:ByteArray).toList)=true then
       ck (t6_3.length+1<1099511627776)<|
       some (Sum.inl (t6_0,t6_1,t6_2,(t6_3++[OB.1]),IntKind.i64.wrap (G8+1)))
      else
       some (Sum.inr (Sum.inl ()))
   else
    if(((Bl (DY.1.getD G8.toNat default) ({data:= #[32]}:ByteArray)).getD 0 default).toList==({data:= #[110,111,100,101]}:ByteArray).toList)=true then
     ck (t6_2.length+1<1099511627776)<|
     some (Sum.inl (t6_0,t6_1,(t6_2++[OB.1]),t6_3,IntKind.i64.wrap (G8+1)))
    else
     if(((Bl (DY.1.getD G8.toNat default) ({data:= #[32]}:ByteArray)).getD 0 default).toList==({data:= #[101,100,103,101]}:ByteArray).toList)=true then
      ck (t6_3.length+1<1099511627776)<|
      some (Sum.inl (t6_0,t6_1,t6_2,(t6_3++[OB.1]),IntKind.i64.wrap (G8+1)))
     else
      some (Sum.inr (Sum.inl ()))
  else
   some (Sum.inr (Sum.inl ()))
 else
  some (Sum.inr (Sum.inr (t6_0,t6_1,t6_2,t6_3)))
noncomputable def ES(I8:ByteArray)(DY:(List ByteArray)×Bool)(v:Int×Int×(List (List Int))×(List (List Int))×Int):Option (Unit⊕(Int×Int×(List (List Int))×(List (List Int)))):=Jk (fun v=>CP I8 DY v.1 v.2.1 v.2.2.1 v.2.2.2.1 v.2.2.2.2) v
noncomputable def Ew(I8:ByteArray):Option (Int×Int×(List (List Int))×(List (List Int))×Bool):=
 (I6 I8).bind fun DY=>
 if DY.2=true then
  (ES I8 DY (0,0,[],[],0)).bind fun AZ=>
  match AZ with
  | .inl q1000_=>
   some (0,0,[],[],false)
  | .inr q1000_=>
   ck (BV q1000_.2.2.1)<|
   ck (BV q1000_.2.2.2)<|
   if(DZ q1000_.1 q1000_.2.1 q1000_.2.2.1 q1000_.2.2.2)=true then
    (Gm q1000_.1 q1000_.2.1 q1000_.2.2.1 q1000_.2.2.2).bind fun mE=>
    if(mE.toList==I8.toList)=true then
     some (q1000_.1,q1000_.2.1,q1000_.2.2.1,q1000_.2.2.2,true)
    else
     some (0,0,[],[],false)
   else
    some (0,0,[],[],false)
 else
  some (0,0,[],[],false)
def VN:SC:=
 .seq
 (.ops [
 ⟨(some 23),(.binOp .lss 3 (.tmp 22) (.tmp 21) 3),0,none⟩])
 (.seq
 (.cond (.tmp 23)
 .skip
 (.exit 0))
 (.seq
 (.block 1
 (.seq
 (.ops [
 ⟨(some 24),(.indexAddr 52 (.tmp 20) (.tmp 22)),0,none⟩,
 ⟨(some 25),(.load 9 (.tmp 24)),9,none⟩,
 ⟨(some 8),(.assign (.tmp 25)),9,none⟩])
 (.seq
 (.ops [
 ⟨(some 26),(.move (.tmp 8)),9,none⟩,
 ⟨(some 27),(.call ⟨(.value (.func 36)), #[(.tmp 26),(.const (.string {data:= #[32]}))], #[9,9]⟩),52,none⟩,
 ⟨(some 9),(.assign (.tmp 27)),52,none⟩])
 (.seq
 (.ops [
 ⟨(some 29),(.move (.tmp 9)),52,none⟩,
 ⟨(some 30),(.slice 52 (.tmp 29) (some (.const (.int .i64 1))) none none),900001,none⟩,
 ⟨(some 31),(.call ⟨(.value (.func 48)), #[(.tmp 30)], #[52]⟩),71,none⟩,
 ⟨(some 28),(.move (.tmp 31)),71,none⟩,
 ⟨(some 32),(.extract (.tmp 28) 0),70,none⟩,
 ⟨(some 33),(.extract (.tmp 28) 1),4,none⟩,
 ⟨(some 10),(.assign (.tmp 32)),70,none⟩,
 ⟨(some 11),(.assign (.tmp 33)),4,none⟩])
 (.block 2
 (.seq
 (.ops [
 ⟨(some 36),(.move (.tmp 11)),4,none⟩,
 ⟨(some 37),(.unOp .not 4 (.tmp 36)),4,none⟩,
 ⟨(some 35),(.assign (.tmp 37)),4,none⟩])
 (.cond (.tmp 35)
 (.seq
 (.ops [
 ⟨(some 38),(.build 39 #[]),39,none⟩,
 ⟨none,(.store 39 (.tmp 2) (.tmp 38)),0,none⟩,
 ⟨(some 3),(.assign (.const (.bool false))),4,none⟩])
 .ret)
 (.seq
 (.ops [
 ⟨(some 40),(.move (.tmp 9)),52,none⟩,
 ⟨(some 41),(.indexAddr 52 (.tmp 40) (.const (.int .i64 0))),0,none⟩,
 ⟨(some 42),(.load 9 (.tmp 41)),9,none⟩,
 ⟨(some 43),(.binOp .eql 9 (.tmp 42) (.const (.string {data:= #[112,114,111,98,108,101,109]})) 9),4,none⟩,
 ⟨(some 44),(.move (.tmp 43)),4,none⟩,
 ⟨(some 45),(.move (.tmp 10)),70,(some (some 44,true))⟩,
 ⟨(some 46),(.call ⟨(.builtin .len), #[(.tmp 45)], #[70]⟩),3,(some (some 44,true))⟩,
 ⟨(some 47),(.binOp .eql 3 (.tmp 46) (.const (.int .i64 2)) 3),4,(some (some 44,true))⟩,
 ⟨(some 48),(.pick (.tmp 44) (.tmp 47) (.const (.bool false))),4,none⟩,
 ⟨(some 39),(.assign (.tmp 48)),4,none⟩])
 (.cond (.tmp 39)
 (.draws [
 (⟨[49,10,10],[49,50,51,52,53,54,55,55,51,6,56,56,54,6],[49]⟩,⟨(some 49),(.move (.tmp 10)),70,none⟩),
 (⟨[50,49,10],[49,50,51,52,53,54,55,55,51,6,56,56,54,6],[50]⟩,⟨(some 50),(.indexAddr 70 (.tmp 49) (.const (.int .i64 0))),0,none⟩),
 (⟨[51,50,10],[49,50,51,52,53,54,55,55,51,6,56,56,54,6],[51]⟩,⟨(some 51),(.load 3 (.tmp 50)),3,none⟩),
 (⟨[52,10,10],[49,50,51,52,53,54,55,55,51,6,56,56,54,6],[52]⟩,⟨(some 52),(.move (.tmp 10)),70,none⟩),
 (⟨[53,52,10],[49,50,51,52,53,54,55,55,51,6,56,56,54,6],[53]⟩,⟨(some 53),(.indexAddr 70 (.tmp 52) (.const (.int .i64 1))),0,none⟩),
 (⟨[54,53,10],[49,50,51,52,53,54,55,55,51,6,56,56,54,6],[54]⟩,⟨(some 54),(.load 3 (.tmp 53)),3,none⟩),
 (⟨[55,6,6],[49,50,51,52,53,54,55,55,51,6,56,56,54,6],[55]⟩,⟨(some 55),(.fieldAddr 39 (.tmp 6) 0),0,none⟩),
 (⟨[55,51,6,10],[49,50,51,52,53,54,55,55,51,6,56,56,54,6],[55,51,6]⟩,⟨none,(.store 3 (.tmp 55) (.tmp 51)),0,none⟩),
 (⟨[56,6,6],[49,50,51,52,53,54,55,55,51,6,56,56,54,6],[56]⟩,⟨(some 56),(.fieldAddr 39 (.tmp 6) 1),0,none⟩),
 (⟨[56,54,6,10],[49,50,51,52,53,54,55,55,51,6,56,56,54,6],[56,54,6]⟩,⟨none,(.store 3 (.tmp 56) (.tmp 54)),0,none⟩)])
 (.seq
 (.ops [
 ⟨(some 58),(.move (.tmp 9)),52,none⟩,
 ⟨(some 59),(.indexAddr 52 (.tmp 58) (.const (.int .i64 0))),0,none⟩,
 ⟨(some 60),(.load 9 (.tmp 59)),9,none⟩,
 ⟨(some 61),(.binOp .eql 9 (.tmp 60) (.const (.string {data:= #[110,111,100,101]})) 9),4,none⟩,
 ⟨(some 57),(.assign (.tmp 61)),4,none⟩])
 (.cond (.tmp 57)
 (.ops [
 ⟨(some 62),(.fieldAddr 39 (.tmp 6) 2),0,none⟩,
 ⟨(some 63),(.load 34 (.tmp 62)),34,none⟩,
 ⟨(some 64),(.move (.tmp 10)),70,none⟩,
 ⟨(some 65),(.buildSlice 34 1 #[(0,(.tmp 64))]),34,none⟩,
 ⟨(some 66),(.call ⟨(.builtin .append), #[(.tmp 63),(.tmp 65)], #[34,34]⟩),34,none⟩,
 ⟨(some 67),(.fieldAddr 39 (.tmp 6) 2),0,none⟩,
 ⟨none,(.store 34 (.tmp 67) (.tmp 66)),0,none⟩])
 (.seq
 (.ops [
 ⟨(some 69),(.move (.tmp 9)),52,none⟩,
 ⟨(some 70),(.indexAddr 52 (.tmp 69) (.const (.int .i64 0))),0,none⟩,
 ⟨(some 71),(.load 9 (.tmp 70)),9,none⟩,
 ⟨(some 72),(.binOp .eql 9 (.tmp 71) (.const (.string {data:= #[101,100,103,101]})) 9),4,none⟩,
 ⟨(some 68),(.assign (.tmp 72)),4,none⟩])
 (.cond (.tmp 68)
 (.ops [
 ⟨(some 73),(.fieldAddr 39 (.tmp 6) 3),0,none⟩,
 ⟨(some 74),(.load 34 (.tmp 73)),34,none⟩,
 ⟨(some 75),(.move (.tmp 10)),70,none⟩,
 ⟨(some 76),(.buildSlice 34 1 #[(0,(.tmp 75))]),34,none⟩,
 ⟨(some 77),(.call ⟨(.builtin .append), #[(.tmp 74),(.tmp 76)], #[34,34]⟩),34,none⟩,
 ⟨(some 78),(.fieldAddr 39 (.tmp 6) 3),0,none⟩,
 ⟨none,(.store 34 (.tmp 78) (.tmp 77)),0,none⟩])
 (.seq
 (.ops [
 ⟨(some 34),(.build 39 #[]),39,none⟩,
 ⟨none,(.store 39 (.tmp 2) (.tmp 34)),0,none⟩,
 ⟨(some 3),(.assign (.const (.bool false))),4,none⟩])
 .ret))))))))))))))
 (.ops [
 ⟨(some 79),(.binOp .add 3 (.tmp 22) (.const (.int .i64 1)) 3),3,none⟩,
 ⟨(some 22),(.move (.tmp 79)),3,none⟩])))
def jJ:SC:= .loop VN
def k22:SC:=
 .seq
 (.ops [
 ⟨(some 2),(.alloc 39),0,none⟩,
 ⟨(some 3),(.assign (.const (.bool false))),4,none⟩])
 (.seq
 (.ops [
 ⟨(some 13),(.move (.tmp 0)),9,none⟩,
 ⟨(some 14),(.call ⟨(.value (.func 47)), #[(.tmp 13)], #[9]⟩),73,none⟩,
 ⟨(some 12),(.move (.tmp 14)),73,none⟩,
 ⟨(some 15),(.extract (.tmp 12) 0),52,none⟩,
 ⟨(some 16),(.extract (.tmp 12) 1),4,none⟩,
 ⟨(some 4),(.assign (.tmp 15)),52,none⟩,
 ⟨(some 5),(.assign (.tmp 16)),4,none⟩])
 (.seq
 (.seq
 (.ops [
 ⟨(some 17),(.move (.tmp 5)),4,none⟩,
 ⟨(some 18),(.unOp .not 4 (.tmp 17)),4,none⟩])
 (.cond (.tmp 18)
 (.seq
 (.ops [
 ⟨(some 19),(.build 39 #[]),39,none⟩,
 ⟨none,(.store 39 (.tmp 2) (.tmp 19)),0,none⟩,
 ⟨(some 3),(.assign (.const (.bool false))),4,none⟩])
 .ret)
 .skip))
 (.seq
 (.ops [
 ⟨(some 6),(.alloc 39),0,none⟩])
 (.seq
 (.seq
 (.ops [
 ⟨(some 20),(.move (.tmp 4)),52,none⟩,
 ⟨(some 21),(.call ⟨(.builtin .len), #[(.tmp 20)], #[52]⟩),3,none⟩,
 ⟨(some 22),(.move (.const (.int .i64 0))),3,none⟩])
 (.block 0
 jJ))
 (.seq
 (.seq
 (.ops [
 ⟨(some 80),(.load 39 (.tmp 6)),39,none⟩,
 ⟨(some 81),(.call ⟨(.value (.func 43)), #[(.tmp 80)], #[39]⟩),4,none⟩,
 ⟨(some 82),(.unOp .not 4 (.tmp 81)),4,none⟩,
 ⟨(some 83),(.move (.tmp 82)),4,none⟩,
 ⟨(some 84),(.load 39 (.tmp 6)),39,(some (some 83,false))⟩,
 ⟨(some 85),(.call ⟨(.value (.func 44)), #[(.tmp 84)], #[39]⟩),9,(some (some 83,false))⟩,
 ⟨(some 86),(.move (.tmp 0)),9,(some (some 83,false))⟩,
 ⟨(some 87),(.binOp .neq 9 (.tmp 85) (.tmp 86) 9),4,(some (some 83,false))⟩,
 ⟨(some 88),(.pick (.tmp 83) (.const (.bool true)) (.tmp 87)),4,none⟩])
 (.cond (.tmp 88)
 (.seq
 (.ops [
 ⟨(some 89),(.build 39 #[]),39,none⟩,
 ⟨none,(.store 39 (.tmp 2) (.tmp 89)),0,none⟩,
 ⟨(some 3),(.assign (.const (.bool false))),4,none⟩])
 .ret)
 .skip))
 (.seq
 (.ops [
 ⟨(some 90),(.load 39 (.tmp 6)),39,none⟩,
 ⟨none,(.store 39 (.tmp 2) (.tmp 90)),0,none⟩,
 ⟨(some 3),(.assign (.const (.bool true))),4,none⟩])
 .ret))))))
theorem wX:Tryd.f22.body.map (CY lends)=some k22:=by kernel_rfl
theorem ADA:DR Tryd.f22 1=true:=by kernel_rfl
theorem c22{a l:List D}{r:D×List D}(h:Cu Y.env k22 (HZ Ak l.length [ResultVar.cell 2 39,ResultVar.tmp 3] r) (entry a l))(ha:a.length=1):Y.call 22 a l=some r:=
 Ah (Y:=Y) rfl Tryd.func22 (ha▸ADA) wX h
def BB(I8:ByteArray)(DY:(List ByteArray)×Bool)(t6_0:Int)(t6_1:Int)(t6_2:List (List Int))(t6_3:List (List Int))(G8:Int)(s:St):Prop:=s.v 0=D.str I8∧s.v 2=D.box [D.int .i64 0,D.int .i64 0,D.own 70 [],D.own 70 []]∧s.v 4=D.own 9 (AJ D.str DY.1)∧s.v 6=D.box [D.int .i64 t6_0,D.int .i64 t6_1,D.own 70 (AJ (fun x=>D.own 3 (AJ (D.int .i64) x)) t6_2),D.own 70 (AJ (fun x=>D.own 3 (AJ (D.int .i64) x)) t6_3)]∧(∃w_,s.v 20=D.vw [4] (s.k 4) w_)∧s.v 21=D.int .i64 (DY.1.length:Int)∧s.v 22=D.int .i64 G8
def BC(I8:ByteArray)(DY:(List ByteArray)×Bool)(r:Unit⊕(Int×Int×(List (List Int))×(List (List Int))))(ex:Ex)(s:St):Prop:=match r with
 | .inl q=>ex= .ret∧s.v 2=D.box [D.int .i64 0,D.int .i64 0,D.own 70 [],D.own 70 []]∧s.v 3=D.bool false
 | .inr q=>ex= .exit 0∧s.v 0=D.str I8∧s.v 2=D.box [D.int .i64 0,D.int .i64 0,D.own 70 [],D.own 70 []]∧s.v 6=D.box [D.int .i64 q.1,D.int .i64 q.2.1,D.own 70 (AJ (fun x=>D.own 3 (AJ (D.int .i64) x)) q.2.2.1),D.own 70 (AJ (fun x=>D.own 3 (AJ (D.int .i64) x)) q.2.2.2)]
theorem Lt(I8:ByteArray)(DY:(List ByteArray)×Bool){v:Int×Int×(List (List Int))×(List (List Int))×Int}{s:St}{r:Unit⊕(Int×Int×(List (List Int))×(List (List Int)))}(h:ES I8 DY v=some r)(hM:BB I8 DY v.1 v.2.1 v.2.2.1 v.2.2.2.1 v.2.2.2.2 s):Cu Y.env jJ (BC I8 DY r) s:=by
 unfold ES at h
 refine DL (c:=VN) (fun v=>CP I8 DY v.1 v.2.1 v.2.2.1 v.2.2.2.1 v.2.2.2.2) (fun v s=>BB I8 DY v.1 v.2.1 v.2.2.1 v.2.2.2.1 v.2.2.2.2 s) (BC I8 DY) ?_ h hM
 clear h hM s v r
 intro v s o hM h
 obtain⟨t6_0,t6_1,t6_2,t6_3,G8⟩:=v
 dsimp only at h hM
 unfold CP at h
 unfold BB at hM
 obtain⟨m0,m1,m2,m3,⟨w4_,m4⟩,m5,m6⟩:=hM
 unfold VN
 by_cases e3:G8<(DY.1.length:Int)
 ·rw [if_pos e3]at h
  obtain⟨e4,h⟩:=Cf h
  obtain⟨e5,h⟩:=Cf h
  have c6:=XO (DY.1.getD G8.toNat default) ({data:= #[32]}:ByteArray) e5
  obtain⟨e7,h⟩:=Cf h
  obtain⟨OB,hl8,h⟩:=BP h
  try dsimp only at h
  have c8:=NF (((Bl (DY.1.getD G8.toNat default) ({data:= #[32]}:ByteArray)).drop 1).take ((Bl (DY.1.getD G8.toNat default) ({data:= #[32]}:ByteArray)).length-1)) hl8
  by_cases e9:OB.2=true
  ·rw [if_pos e9]at h
   obtain⟨Hd,h⟩:=Cf h
   by_cases e11:(((Bl (DY.1.getD G8.toNat default) ({data:= #[32]}:ByteArray)).getD 0 default).toList==({data:= #[112,114,111,98,108,101,109]}:ByteArray).toList)=true
   ·rw [if_pos e11]at h
    by_cases e12:(OB.1.length:Int)=2
    ·rw [if_pos e12]at h
     obtain⟨e13,h⟩:=Cf h
     obtain⟨e14,h⟩:=Cf h
     obtain rfl:=Option.some.inj h
     simp (maxDischargeDepth:=9) only [↓AL,AB,AO,Ao,AC,AP,Ap,↓reduceIte,Nat.reduceEqDiff,Nat.reduceLT,Nat.reduceLeDiff,Nat.reduceAdd,Nat.reduceMul,Nat.reduceMod,Nat.reduceDiv,Nat.reducePow,Nat.reduceSub,Nat.reduceBEq,Int.reduceLE,Int.reduceLT,Int.reduceEq,Int.reduceSub,Int.reduceAdd,Int.reduceToNat,Int.reduceNeg,m0,m1,m2,m3,m4,m5,m6,e3,e4.1,e4.2,e5.1,e5.2,c6,e7,c8,e9,Hd,e11,decide_eq_true e12,e13,e14,BB,BC,De,Df,Dh]<;>(repeat' apply And.intro)<;>first|rfl|exact⟨_,rfl⟩|exact⟨_,_,rfl⟩|simp [AJ,A7]
    ·rw [if_neg e12]at h
     by_cases e13:(((Bl (DY.1.getD G8.toNat default) ({data:= #[32]}:ByteArray)).getD 0 default).toList==({data:= #[110,111,100,101]}:ByteArray).toList)=true
     ·rw [if_pos e13]at h
      obtain⟨e14,h⟩:=Cf h
      obtain rfl:=Option.some.inj h
      simp (maxDischargeDepth:=9) only [↓AL,AB,AO,Ao,AC,AP,Ap,↓reduceIte,Nat.reduceEqDiff,Nat.reduceLT,Nat.reduceLeDiff,Nat.reduceAdd,Nat.reduceMul,Nat.reduceMod,Nat.reduceDiv,Nat.reducePow,Nat.reduceSub,Nat.reduceBEq,Int.reduceLE,Int.reduceLT,Int.reduceEq,Int.reduceSub,Int.reduceAdd,Int.reduceToNat,Int.reduceNeg,m0,m1,m2,m3,m4,m5,m6,e3,e4.1,e4.2,e5.1,e5.2,c6,e7,c8,e9,Hd,e11,e12,e13,e14,BB,BC,De,Df,Dh]<;>(repeat' apply And.intro)<;>first|rfl|exact⟨_,rfl⟩|exact⟨_,_,rfl⟩|simp [AJ,A7]
     ·rw [if_neg e13]at h
      have e13f:(((Bl (DY.1.getD G8.toNat default) ({data:= #[32]}:ByteArray)).getD 0 default).toList==({data:= #[110,111,100,101]}:ByteArray).toList)=false:=Bool.eq_false_iff.mpr e13
      by_cases e14:(((Bl (DY.1.getD G8.toNat default) ({data:= #[32]}:ByteArray)).getD 0 default).toList==({data:= #[101,100,103,101]}:ByteArray).toList)=true
      ·rw [if_pos e14]at h
       obtain⟨e15,h⟩:=Cf h
       obtain rfl:=Option.some.inj h
       simp (maxDischargeDepth:=9) only [↓AL,AB,AO,Ao,AC,AP,Ap,↓reduceIte,Nat.reduceEqDiff,Nat.reduceLT,Nat.reduceLeDiff,Nat.reduceAdd,Nat.reduceMul,Nat.reduceMod,Nat.reduceDiv,Nat.reducePow,Nat.reduceSub,Nat.reduceBEq,Int.reduceLE,Int.reduceLT,Int.reduceEq,Int.reduceSub,Int.reduceAdd,Int.reduceToNat,Int.reduceNeg,m0,m1,m2,m3,m4,m5,m6,e3,e4.1,e4.2,e5.1,e5.2,c6,e7,c8,e9,Hd,e11,e12,e13f,e14,e15,BB,BC,De,Df,Dh]<;>(repeat' apply And.intro)<;>first|rfl|exact⟨_,rfl⟩|exact⟨_,_,rfl⟩|simp [AJ,A7]
      ·rw [if_neg e14]at h
       have e14f:(((Bl (DY.1.getD G8.toNat default) ({data:= #[32]}:ByteArray)).getD 0 default).toList==({data:= #[101,100,103,101]}:ByteArray).toList)=false:=Bool.eq_false_iff.mpr e14
       obtain rfl:=Option.some.inj h
       simp (maxDischargeDepth:=9) only [↓AL,AB,AO,Ao,AC,AP,Ap,↓reduceIte,Nat.reduceEqDiff,Nat.reduceLT,Nat.reduceLeDiff,Nat.reduceAdd,Nat.reduceMul,Nat.reduceMod,Nat.reduceDiv,Nat.reducePow,Nat.reduceSub,Nat.reduceBEq,Int.reduceLE,Int.reduceLT,Int.reduceEq,Int.reduceSub,Int.reduceAdd,Int.reduceToNat,Int.reduceNeg,m0,m1,m2,m3,m4,m5,m6,e3,e4.1,e4.2,e5.1,e5.2,c6,e7,c8,e9,Hd,e11,e12,e13f,e14f,BB,BC,De,Df,Dh]<;>(repeat' apply And.intro)<;>first|rfl|exact⟨_,rfl⟩|exact⟨_,_,rfl⟩|simp [AJ,A7]
   ·rw [if_neg e11]at h
    have e11f:(((Bl (DY.1.getD G8.toNat default) ({data:= #[32]}:ByteArray)).getD 0 default).toList==({data:= #[112,114,111,98,108,101,109]}:ByteArray).toList)=false:=Bool.eq_false_iff.mpr e11
    by_cases e12:(((Bl (DY.1.getD G8.toNat default) ({data:= #[32]}:ByteArray)).getD 0 default).toList==({data:= #[110,111,100,101]}:ByteArray).toList)=true
    ·rw [if_pos e12]at h
     obtain⟨e13,h⟩:=Cf h
     obtain rfl:=Option.some.inj h
     simp (maxDischargeDepth:=9) only [↓AL,AB,AO,Ao,AC,AP,Ap,↓reduceIte,Nat.reduceEqDiff,Nat.reduceLT,Nat.reduceLeDiff,Nat.reduceAdd,Nat.reduceMul,Nat.reduceMod,Nat.reduceDiv,Nat.reducePow,Nat.reduceSub,Nat.reduceBEq,Int.reduceLE,Int.reduceLT,Int.reduceEq,Int.reduceSub,Int.reduceAdd,Int.reduceToNat,Int.reduceNeg,m0,m1,m2,m3,m4,m5,m6,e3,e4.1,e4.2,e5.1,e5.2,c6,e7,c8,e9,Hd,e11f,e12,e13,BB,BC,De,Df,Dh]<;>(repeat' apply And.intro)<;>first|rfl|exact⟨_,rfl⟩|exact⟨_,_,rfl⟩|simp [AJ,A7]
    ·rw [if_neg e12]at h
     have e12f:(((Bl (DY.1.getD G8.toNat default) ({data:= #[32]}:ByteArray)).getD 0 default).toList==({data:= #[110,111,100,101]}:ByteArray).toList)=false:=Bool.eq_false_iff.mpr e12
     by_cases e13:(((Bl (DY.1.getD G8.toNat default) ({data:= #[32]}:ByteArray)).getD 0 default).toList==({data:= #[101,100,103,101]}:ByteArray).toList)=true
     ·rw [if_pos e13]at h
      obtain⟨e14,h⟩:=Cf h
      obtain rfl:=Option.some.inj h
      simp (maxDischargeDepth:=9) only [↓AL,AB,AO,Ao,AC,AP,Ap,↓reduceIte,Nat.reduceEqDiff,Nat.reduceLT,Nat.reduceLeDiff,Nat.reduceAdd,Nat.reduceMul,Nat.reduceMod,Nat.reduceDiv,Nat.reducePow,Nat.reduceSub,Nat.reduceBEq,Int.reduceLE,Int.reduceLT,Int.reduceEq,Int.reduceSub,Int.reduceAdd,Int.reduceToNat,Int.reduceNeg,m0,m1,m2,m3,m4,m5,m6,e3,e4.1,e4.2,e5.1,e5.2,c6,e7,c8,e9,Hd,e11f,e12f,e13,e14,BB,BC,De,Df,Dh]<;>(repeat' apply And.intro)<;>first|rfl|exact⟨_,rfl⟩|exact⟨_,_,rfl⟩|simp [AJ,A7]
     ·rw [if_neg e13]at h
      have e13f:(((Bl (DY.1.getD G8.toNat default) ({data:= #[32]}:ByteArray)).getD 0 default).toList==({data:= #[101,100,103,101]}:ByteArray).toList)=false:=Bool.eq_false_iff.mpr e13
      obtain rfl:=Option.some.inj h
      simp (maxDischargeDepth:=9) only [↓AL,AB,AO,Ao,AC,AP,Ap,↓reduceIte,Nat.reduceEqDiff,Nat.reduceLT,Nat.reduceLeDiff,Nat.reduceAdd,Nat.reduceMul,Nat.reduceMod,Nat.reduceDiv,Nat.reducePow,Nat.reduceSub,Nat.reduceBEq,Int.reduceLE,Int.reduceLT,Int.reduceEq,Int.reduceSub,Int.reduceAdd,Int.reduceToNat,Int.reduceNeg,m0,m1,m2,m3,m4,m5,m6,e3,e4.1,e4.2,e5.1,e5.2,c6,e7,c8,e9,Hd,e11f,e12f,e13f,BB,BC,De,Df,Dh]<;>(repeat' apply And.intro)<;>first|rfl|exact⟨_,rfl⟩|exact⟨_,_,rfl⟩|simp [AJ,A7]
  ·rw [if_neg e9]at h
   have e9f:OB.2=false:=Bool.eq_false_iff.mpr e9
   obtain rfl:=Option.some.inj h
   simp (maxDischargeDepth:=9) only [↓AL,AB,AO,Ao,AC,AP,Ap,↓reduceIte,Nat.reduceEqDiff,Nat.reduceLT,Nat.reduceLeDiff,Nat.reduceAdd,Nat.reduceMul,Nat.reduceMod,Nat.reduceDiv,Nat.reducePow,Nat.reduceSub,Nat.reduceBEq,Int.reduceLE,Int.reduceLT,Int.reduceEq,Int.reduceSub,Int.reduceAdd,Int.reduceToNat,Int.reduceNeg,m0,m1,m2,m3,m4,m5,m6,e3,e4.1,e4.2,e5.1,e5.2,c6,e7,c8,e9f,BB,BC,De,Df,Dh]<;>(repeat' apply And.intro)<;>first|rfl|exact⟨_,rfl⟩|exact⟨_,_,rfl⟩|simp [AJ,A7]
 ·rw [if_neg e3]at h
  obtain rfl:=Option.some.inj h
  simp (maxDischargeDepth:=9) only [↓AL,AB,AO,Ao,AC,AP,Ap,↓reduceIte,Nat.reduceEqDiff,Nat.reduceLT,Nat.reduceLeDiff,Nat.reduceAdd,Nat.reduceMul,Nat.reduceMod,Nat.reduceDiv,Nat.reducePow,Nat.reduceSub,Nat.reduceBEq,Int.reduceLE,Int.reduceLT,Int.reduceEq,Int.reduceSub,Int.reduceAdd,Int.reduceToNat,Int.reduceNeg,m0,m1,m2,m3,m4,m5,m6,e3,BB,BC,De,Df,Dh]<;>(repeat' apply And.intro)<;>first|rfl|exact⟨_,rfl⟩|exact⟨_,_,rfl⟩|simp [AJ,A7]
theorem Ma(I8:ByteArray){r:Int×Int×(List (List Int))×(List (List Int))×Bool}(h:Ew I8=some r):Y.call 22 [D.str I8] []=some (D.tup [D.agg [D.int .i64 r.1,D.int .i64 r.2.1,D.own 70 (AJ (fun x=>D.own 3 (AJ (D.int .i64) x)) r.2.2.1),D.own 70 (AJ (fun x=>D.own 3 (AJ (D.int .i64) x)) r.2.2.2.1)],D.bool r.2.2.2.2],[]):=by
 refine c22 ?_ rfl
 unfold k22
 unfold Ew at h
 obtain⟨DY,hl1,h⟩:=BP h
 try dsimp only at h
 have c1:=O9 I8 hl1
 by_cases e2:DY.2=true
 ·rw [if_pos e2]at h
  obtain⟨AZ,hl4,h⟩:=BP h
  try dsimp only at h
  simp (maxDischargeDepth:=9) only [↓AL,AB,AO,Ao,AC,AP,Ap,↓reduceIte,Nat.reduceEqDiff,Nat.reduceLT,Nat.reduceLeDiff,Nat.reduceAdd,Nat.reduceMul,Nat.reduceMod,Nat.reduceDiv,Nat.reducePow,Nat.reduceSub,Nat.reduceBEq,Int.reduceLE,Int.reduceLT,Int.reduceEq,Int.reduceSub,Int.reduceAdd,Int.reduceToNat,Int.reduceNeg,c1,e2]
  refine C8 (Lt I8 DY hl4 ?_) ?_
  ·simp (maxDischargeDepth:=9) only [↓AL,AB,AO,Ao,AC,AP,Ap,↓reduceIte,Nat.reduceEqDiff,Nat.reduceLT,Nat.reduceLeDiff,Nat.reduceAdd,Nat.reduceMul,Nat.reduceMod,Nat.reduceDiv,Nat.reducePow,Nat.reduceSub,Nat.reduceBEq,Int.reduceLE,Int.reduceLT,Int.reduceEq,Int.reduceSub,Int.reduceAdd,Int.reduceToNat,Int.reduceNeg,c1,e2,BB]<;>(repeat' apply And.intro)<;>first|rfl|exact⟨_,rfl⟩|exact⟨_,_,rfl⟩|simp [AJ,A7]
  ·intro ex4 s4 hX4
   rcases AZ with q1000_|q1000_
   ·unfold BC at hX4
    dsimp only at hX4 h
    obtain⟨rfl,n4_0,n4_1⟩:=hX4
    obtain rfl:=Option.some.inj h
    simp (maxDischargeDepth:=9) only [↓AL,AB,AO,Ao,AC,AP,Ap,↓reduceIte,Nat.reduceEqDiff,Nat.reduceLT,Nat.reduceLeDiff,Nat.reduceAdd,Nat.reduceMul,Nat.reduceMod,Nat.reduceDiv,Nat.reducePow,Nat.reduceSub,Nat.reduceBEq,Int.reduceLE,Int.reduceLT,Int.reduceEq,Int.reduceSub,Int.reduceAdd,Int.reduceToNat,Int.reduceNeg,c1,e2,n4_0,n4_1]<;>(repeat' apply And.intro)<;>first|rfl|exact⟨_,rfl⟩|exact⟨_,_,rfl⟩|simp [AJ,A7]
   ·unfold BC at hX4
    dsimp only at hX4 h
    obtain⟨rfl,n4_0,n4_1,n4_2⟩:=hX4
    obtain⟨e5,h⟩:=Cf h
    obtain⟨e6,h⟩:=Cf h
    have c7:=RV q1000_.1 q1000_.2.1 q1000_.2.2.1 q1000_.2.2.2 e5 e6
    by_cases e8:(DZ q1000_.1 q1000_.2.1 q1000_.2.2.1 q1000_.2.2.2)=true
    ·rw [if_pos e8]at h
     obtain⟨mE,hl9,h⟩:=BP h
     try dsimp only at h
     have c9:=NE q1000_.1 q1000_.2.1 q1000_.2.2.1 q1000_.2.2.2 hl9
     by_cases Hd:(mE.toList==I8.toList)=true
     ·rw [if_pos Hd]at h
      obtain rfl:=Option.some.inj h
      simp (maxDischargeDepth:=9) only [↓AL,AB,AO,Ao,AC,AP,Ap,↓reduceIte,Nat.reduceEqDiff,Nat.reduceLT,Nat.reduceLeDiff,Nat.reduceAdd,Nat.reduceMul,Nat.reduceMod,Nat.reduceDiv,Nat.reducePow,Nat.reduceSub,Nat.reduceBEq,Int.reduceLE,Int.reduceLT,Int.reduceEq,Int.reduceSub,Int.reduceAdd,Int.reduceToNat,Int.reduceNeg,c1,e2,n4_0,n4_1,n4_2,e5,e6,c7,e8,c9,Hd]<;>(repeat' apply And.intro)<;>first|rfl|exact⟨_,rfl⟩|exact⟨_,_,rfl⟩|simp [AJ,A7]
     ·rw [if_neg Hd]at h
      have e10f:(mE.toList==I8.toList)=false:=Bool.eq_false_iff.mpr Hd
      obtain rfl:=Option.some.inj h
      simp (maxDischargeDepth:=9) only [↓AL,AB,AO,Ao,AC,AP,Ap,↓reduceIte,Nat.reduceEqDiff,Nat.reduceLT,Nat.reduceLeDiff,Nat.reduceAdd,Nat.reduceMul,Nat.reduceMod,Nat.reduceDiv,Nat.reducePow,Nat.reduceSub,Nat.reduceBEq,Int.reduceLE,Int.reduceLT,Int.reduceEq,Int.reduceSub,Int.reduceAdd,Int.reduceToNat,Int.reduceNeg,c1,e2,n4_0,n4_1,n4_2,e5,e6,c7,e8,c9,e10f]<;>(repeat' apply And.intro)<;>first|rfl|exact⟨_,rfl⟩|exact⟨_,_,rfl⟩|simp [AJ,A7]
    ·rw [if_neg e8]at h
     have e8f:(DZ q1000_.1 q1000_.2.1 q1000_.2.2.1 q1000_.2.2.2)=false:=Bool.eq_false_iff.mpr e8
     obtain rfl:=Option.some.inj h
     simp (maxDischargeDepth:=9) only [↓AL,AB,AO,Ao,AC,AP,Ap,↓reduceIte,Nat.reduceEqDiff,Nat.reduceLT,Nat.reduceLeDiff,Nat.reduceAdd,Nat.reduceMul,Nat.reduceMod,Nat.reduceDiv,Nat.reducePow,Nat.reduceSub,Nat.reduceBEq,Int.reduceLE,Int.reduceLT,Int.reduceEq,Int.reduceSub,Int.reduceAdd,Int.reduceToNat,Int.reduceNeg,c1,e2,n4_0,n4_1,n4_2,e5,e6,c7,e8f]<;>(repeat' apply And.intro)<;>first|rfl|exact⟨_,rfl⟩|exact⟨_,_,rfl⟩|simp [AJ,A7]
 ·rw [if_neg e2]at h
  have e2f:DY.2=false:=Bool.eq_false_iff.mpr e2
  obtain rfl:=Option.some.inj h
  simp (maxDischargeDepth:=9) only [↓AL,AB,AO,Ao,AC,AP,Ap,↓reduceIte,Nat.reduceEqDiff,Nat.reduceLT,Nat.reduceLeDiff,Nat.reduceAdd,Nat.reduceMul,Nat.reduceMod,Nat.reduceDiv,Nat.reducePow,Nat.reduceSub,Nat.reduceBEq,Int.reduceLE,Int.reduceLT,Int.reduceEq,Int.reduceSub,Int.reduceAdd,Int.reduceToNat,Int.reduceNeg,c1,e2f]<;>(repeat' apply And.intro)<;>first|rfl|exact⟨_,rfl⟩|exact⟨_,_,rfl⟩|simp [AJ,A7]
noncomputable def Ey(s_:ByteArray)(b:Int)(out:List ByteArray)(from_:Int)(i:Int):Option (((List ByteArray)×Int×Int)⊕((List ByteArray)×Int)):=
 if i<(s_.size:Int)then
  ck (0≤i∧i.toNat<s_.size)<|
  if(U4 s_ i)=b then
   ck (0≤from_)<|
   ck (0≤i)<|
   ck (from_.toNat≤i.toNat∧i.toNat≤s_.size)<|
   ck (out.length+1<1099511627776)<|
   some (Sum.inl ((out++[(s_.extract from_.toNat i.toNat)]),IntKind.i64.wrap (i+1),IntKind.i64.wrap (i+1)))
  else
   some (Sum.inl (out,from_,IntKind.i64.wrap (i+1)))
 else
  some (Sum.inr (out,from_))
noncomputable def FK(s_:ByteArray)(b:Int)(v:(List ByteArray)×Int×Int):Option ((List ByteArray)×Int):=Jk (fun v=>Ey s_ b v.1 v.2.1 v.2.2) v
noncomputable def JM(s_:ByteArray)(b:Int):Option ((List ByteArray)):=
 (FK s_ b ([],0,0)).bind fun AZ=>
 ck (0≤AZ.2)<|
 ck (AZ.2.toNat≤s_.size∧s_.size≤s_.size)<|
 ck (AZ.1.length+1<1099511627776)<|
 some (AZ.1++[(s_.extract AZ.2.toNat s_.size)])
def VO:SC:=
 .seq
 (.seq
 (.ops [
 ⟨(some 8),(.move (.tmp 7)),3,none⟩,
 ⟨(some 9),(.move (.tmp 0)),9,none⟩,
 ⟨(some 10),(.call ⟨(.builtin .len), #[(.tmp 9)], #[9]⟩),3,none⟩,
 ⟨(some 11),(.binOp .lss 3 (.tmp 8) (.tmp 10) 3),4,none⟩])
 (.cond (.tmp 11)
 .skip
 (.exit 0)))
 (.seq
 (.block 1
 (.seq
 (.ops [
 ⟨(some 14),(.move (.tmp 0)),9,none⟩,
 ⟨(some 15),(.move (.tmp 7)),3,none⟩,
 ⟨(some 16),(.index 9 (.tmp 14) (.tmp 15)),5,none⟩,
 ⟨(some 17),(.move (.tmp 1)),5,none⟩,
 ⟨(some 18),(.binOp .eql 5 (.tmp 16) (.tmp 17) 5),4,none⟩])
 (.cond (.tmp 18)
 (.seq
 (.ops [
 ⟨(some 19),(.move (.tmp 5)),52,none⟩,
 ⟨(some 20),(.move (.tmp 0)),9,none⟩,
 ⟨(some 21),(.move (.tmp 6)),3,none⟩,
 ⟨(some 22),(.move (.tmp 7)),3,none⟩,
 ⟨(some 23),(.slice 9 (.tmp 20) (some (.tmp 21)) (some (.tmp 22)) none),9,none⟩,
 ⟨(some 24),(.buildSlice 52 1 #[(0,(.tmp 23))]),52,none⟩,
 ⟨(some 25),(.call ⟨(.builtin .append), #[(.tmp 19),(.tmp 24)], #[52,52]⟩),52,none⟩,
 ⟨(some 5),(.assign (.tmp 25)),52,none⟩])
 (.ops [
 ⟨(some 26),(.move (.tmp 7)),3,none⟩,
 ⟨(some 27),(.binOp .add 3 (.tmp 26) (.const (.int .i64 1)) 3),3,none⟩,
 ⟨(some 6),(.assign (.tmp 27)),3,none⟩]))
 .skip)))
 (.ops [
 ⟨(some 12),(.move (.tmp 7)),3,none⟩,
 ⟨(some 13),(.binOp .add 3 (.tmp 12) (.const (.int .i64 1)) 3),3,none⟩,
 ⟨(some 7),(.assign (.tmp 13)),3,none⟩]))
def jK:SC:= .loop VO
def k33:SC:=
 .seq
 (.ops [
 ⟨(some 4),(.assign (.const (.slice none 0 0))),52,none⟩])
 (.seq
 (.ops [
 ⟨(some 5),(.assign (.const (.slice none 0 0))),52,none⟩])
 (.seq
 (.ops [
 ⟨(some 6),(.assign (.const (.int .i64 0))),3,none⟩])
 (.seq
 (.seq
 (.ops [
 ⟨(some 7),(.assign (.const (.int .i64 0))),3,none⟩])
 (.block 0
 jK))
 (.seq
 (.ops [
 ⟨(some 28),(.move (.tmp 5)),52,none⟩,
 ⟨(some 29),(.move (.tmp 0)),9,none⟩,
 ⟨(some 30),(.move (.tmp 6)),3,none⟩,
 ⟨(some 31),(.slice 9 (.tmp 29) (some (.tmp 30)) none none),9,none⟩,
 ⟨(some 32),(.buildSlice 52 1 #[(0,(.tmp 31))]),52,none⟩,
 ⟨(some 33),(.call ⟨(.builtin .append), #[(.tmp 28),(.tmp 32)], #[52,52]⟩),52,none⟩,
 ⟨(some 4),(.assign (.tmp 33)),52,none⟩])
 .ret))))
theorem wY:Tryd.f33.body.map (CY lends)=some k33:=by kernel_rfl
theorem ADC:DR Tryd.f33 2=true:=by kernel_rfl
theorem c33{a l:List D}{r:D×List D}(h:Cu Y.env k33 (HZ Ak l.length [ResultVar.tmp 4] r) (entry a l))(ha:a.length=2):Y.call 33 a l=some r:=
 Ah (Y:=Y) rfl Tryd.func33 (ha▸ADC) wY h
def EC(s_:ByteArray)(b:Int)(out:List ByteArray)(from_:Int)(i:Int)(s:St):Prop:=s.v 0=D.str s_∧s.v 1=D.int .u8 b∧s.v 5=D.own 9 (AJ D.str out)∧s.v 6=D.int .i64 from_∧s.v 7=D.int .i64 i
def Ez(s_:ByteArray)(b:Int)(r:(List ByteArray)×Int)(ex:Ex)(s:St):Prop:=ex= .exit 0∧s.v 0=D.str s_∧s.v 5=D.own 9 (AJ D.str r.1)∧s.v 6=D.int .i64 r.2
theorem Pt(s_:ByteArray)(b:Int){v:(List ByteArray)×Int×Int}{s:St}{r:(List ByteArray)×Int}(h:FK s_ b v=some r)(hM:EC s_ b v.1 v.2.1 v.2.2 s):Cu Y.env jK (Ez s_ b r) s:=by
 unfold FK at h
 refine DL (c:=VO) (fun v=>Ey s_ b v.1 v.2.1 v.2.2) (fun v s=>EC s_ b v.1 v.2.1 v.2.2 s) (Ez s_ b) ?_ h hM
 clear h hM s v r
 intro v s o hM h
 obtain⟨out,from_,i⟩:=v
 dsimp only at h hM
 unfold Ey at h
 unfold EC at hM
 obtain⟨m0,m1,m2,m3,m4⟩:=hM
 unfold VO
 by_cases e1:i<(s_.size:Int)
 ·rw [if_pos e1]at h
  obtain⟨e2,h⟩:=Cf h
  by_cases e3:(U4 s_ i)=b
  ·rw [if_pos e3]at h
   obtain⟨e4,h⟩:=Cf h
   obtain⟨e5,h⟩:=Cf h
   obtain⟨e6,h⟩:=Cf h
   obtain⟨e7,h⟩:=Cf h
   obtain rfl:=Option.some.inj h
   simp (maxDischargeDepth:=9) only [↓AL,AB,AO,Ao,AC,AP,Ap,↓reduceIte,Nat.reduceEqDiff,Nat.reduceLT,Nat.reduceLeDiff,Nat.reduceAdd,Nat.reduceMul,Nat.reduceMod,Nat.reduceDiv,Nat.reducePow,Nat.reduceSub,Nat.reduceBEq,Int.reduceLE,Int.reduceLT,Int.reduceEq,Int.reduceSub,Int.reduceAdd,Int.reduceToNat,Int.reduceNeg,m0,m1,m2,m3,m4,e1,e2.1,e2.2,decide_eq_true e3,e4,e5,e6.1,e6.2,e7,EC,Ez,De,Df,Dh]<;>(repeat' apply And.intro)<;>first|rfl|exact⟨_,rfl⟩|exact⟨_,_,rfl⟩|simp [AJ,A7]
  ·rw [if_neg e3]at h
   obtain rfl:=Option.some.inj h
   simp (maxDischargeDepth:=9) only [↓AL,AB,AO,Ao,AC,AP,Ap,↓reduceIte,Nat.reduceEqDiff,Nat.reduceLT,Nat.reduceLeDiff,Nat.reduceAdd,Nat.reduceMul,Nat.reduceMod,Nat.reduceDiv,Nat.reducePow,Nat.reduceSub,Nat.reduceBEq,Int.reduceLE,Int.reduceLT,Int.reduceEq,Int.reduceSub,Int.reduceAdd,Int.reduceToNat,Int.reduceNeg,m0,m1,m2,m3,m4,e1,e2.1,e2.2,e3,EC,Ez,De,Df,Dh]<;>(repeat' apply And.intro)<;>first|rfl|exact⟨_,rfl⟩|exact⟨_,_,rfl⟩|simp [AJ,A7]
 ·rw [if_neg e1]at h
  obtain rfl:=Option.some.inj h
  simp (maxDischargeDepth:=9) only [↓AL,AB,AO,Ao,AC,AP,Ap,↓reduceIte,Nat.reduceEqDiff,Nat.reduceLT,Nat.reduceLeDiff,Nat.reduceAdd,Nat.reduceMul,Nat.reduceMod,Nat.reduceDiv,Nat.reducePow,Nat.reduceSub,Nat.reduceBEq,Int.reduceLE,Int.reduceLT,Int.reduceEq,Int.reduceSub,Int.reduceAdd,Int.reduceToNat,Int.reduceNeg,m0,m1,m2,m3,m4,e1,EC,Ez,De,Df,Dh]<;>(repeat' apply And.intro)<;>first|rfl|exact⟨_,rfl⟩|exact⟨_,_,rfl⟩|simp [AJ,A7]
theorem Lu(s_:ByteArray)(b:Int){r:(List ByteArray)}(h:JM s_ b=some r):Y.call 33 [D.str s_,D.int .u8 b] []=some (D.own 9 (AJ D.str r),[]):=by
 refine c33 ?_ rfl
 unfold k33
 unfold JM at h
 obtain⟨AZ,hl2,h⟩:=BP h
 try dsimp only at h
 simp (maxDischargeDepth:=9) only [↓AL,AB,AO,Ao,AC,AP,Ap,↓reduceIte,Nat.reduceEqDiff,Nat.reduceLT,Nat.reduceLeDiff,Nat.reduceAdd,Nat.reduceMul,Nat.reduceMod,Nat.reduceDiv,Nat.reducePow,Nat.reduceSub,Nat.reduceBEq,Int.reduceLE,Int.reduceLT,Int.reduceEq,Int.reduceSub,Int.reduceAdd,Int.reduceToNat,Int.reduceNeg]
 refine C8 (Pt s_ b hl2 ?_) ?_
 ·simp (maxDischargeDepth:=9) only [↓AL,AB,AO,Ao,AC,AP,Ap,↓reduceIte,Nat.reduceEqDiff,Nat.reduceLT,Nat.reduceLeDiff,Nat.reduceAdd,Nat.reduceMul,Nat.reduceMod,Nat.reduceDiv,Nat.reducePow,Nat.reduceSub,Nat.reduceBEq,Int.reduceLE,Int.reduceLT,Int.reduceEq,Int.reduceSub,Int.reduceAdd,Int.reduceToNat,Int.reduceNeg,EC]<;>(repeat' apply And.intro)<;>first|rfl|exact⟨_,rfl⟩|exact⟨_,_,rfl⟩|simp [AJ,A7]
 ·intro ex2 s2 hX2
  unfold Ez at hX2
  obtain⟨rfl,n2_0,n2_1,n2_2⟩:=hX2
  obtain⟨e3,h⟩:=Cf h
  obtain⟨e4,h⟩:=Cf h
  obtain⟨e5,h⟩:=Cf h
  obtain rfl:=Option.some.inj h
  simp (maxDischargeDepth:=9) only [↓AL,AB,AO,Ao,AC,AP,Ap,↓reduceIte,Nat.reduceEqDiff,Nat.reduceLT,Nat.reduceLeDiff,Nat.reduceAdd,Nat.reduceMul,Nat.reduceMod,Nat.reduceDiv,Nat.reducePow,Nat.reduceSub,Nat.reduceBEq,Int.reduceLE,Int.reduceLT,Int.reduceEq,Int.reduceSub,Int.reduceAdd,Int.reduceToNat,Int.reduceNeg,n2_0,n2_1,n2_2,e3,e4.1,e4.2,e5]<;>(repeat' apply And.intro)<;>first|rfl|exact⟨_,rfl⟩|exact⟨_,_,rfl⟩|simp [AJ,A7]
noncomputable def Fe(s_:ByteArray)(n_:Int)(i:Int):Option ((Int×Int)⊕(Unit⊕Int)):=
 if i<(s_.size:Int)then
  ck (0≤i∧i.toNat<s_.size)<|
  if(U4 s_ i)<48 then
   some (Sum.inr (Sum.inl ()))
  else
   if 57<(U4 s_ i)then
    some (Sum.inr (Sum.inl ()))
   else
    some (Sum.inl (IntKind.i64.wrap ((IntKind.i64.wrap (10*n_))+(IntKind.i64.wrap (IntKind.u8.wrap ((U4 s_ i)-48)))),IntKind.i64.wrap (i+1)))
 else
  some (Sum.inr (Sum.inr n_))
noncomputable def G9(s_:ByteArray)(v:Int×Int):Option (Unit⊕Int):=Jk (fun v=>Fe s_ v.1 v.2) v
noncomputable def Lv(s_:ByteArray):Option (Int):=
 if(Kr (s_.size:Int) (1:Int) (6:Int))=true then
  ck (0<s_.size)<|
  if(U4 s_ 0)=48 then
   if 1<(s_.size:Int)then
    some (-1)
   else
    (G9 s_ (0,0)).bind fun AZ=>
    match AZ with
    | .inl q1000_=>
     some (-1)
    | .inr q1000_=>
     some q1000_
  else
   (G9 s_ (0,0)).bind fun AZ=>
   match AZ with
   | .inl q1000_=>
    some (-1)
   | .inr q1000_=>
    some q1000_
 else
  some (-1)
def VP:SC:=
 .seq
 (.seq
 (.ops [
 ⟨(some 19),(.move (.tmp 4)),3,none⟩,
 ⟨(some 20),(.move (.tmp 0)),9,none⟩,
 ⟨(some 21),(.call ⟨(.builtin .len), #[(.tmp 20)], #[9]⟩),3,none⟩,
 ⟨(some 22),(.binOp .lss 3 (.tmp 19) (.tmp 21) 3),4,none⟩])
 (.cond (.tmp 22)
 .skip
 (.exit 0)))
 (.seq
 (.block 1
 (.seq
 (.seq
 (.ops [
 ⟨(some 25),(.move (.tmp 0)),9,none⟩,
 ⟨(some 26),(.move (.tmp 4)),3,none⟩,
 ⟨(some 27),(.index 9 (.tmp 25) (.tmp 26)),5,none⟩,
 ⟨(some 28),(.binOp .lss 5 (.tmp 27) (.const (.int .u8 48)) 5),4,none⟩,
 ⟨(some 29),(.move (.tmp 28)),4,none⟩,
 ⟨(some 30),(.move (.tmp 0)),9,(some (some 29,false))⟩,
 ⟨(some 31),(.move (.tmp 4)),3,(some (some 29,false))⟩,
 ⟨(some 32),(.index 9 (.tmp 30) (.tmp 31)),5,(some (some 29,false))⟩,
 ⟨(some 33),(.binOp .gtr 5 (.tmp 32) (.const (.int .u8 57)) 5),4,(some (some 29,false))⟩,
 ⟨(some 34),(.pick (.tmp 29) (.const (.bool true)) (.tmp 33)),4,none⟩])
 (.cond (.tmp 34)
 (.seq
 (.ops [
 ⟨(some 2),(.assign (.const (.int .i64 (-1)))),3,none⟩])
 .ret)
 .skip))
 (.ops [
 ⟨(some 35),(.move (.tmp 3)),3,none⟩,
 ⟨(some 36),(.binOp .mul 3 (.const (.int .i64 10)) (.tmp 35) 3),3,none⟩,
 ⟨(some 37),(.move (.tmp 0)),9,none⟩,
 ⟨(some 38),(.move (.tmp 4)),3,none⟩,
 ⟨(some 39),(.index 9 (.tmp 37) (.tmp 38)),5,none⟩,
 ⟨(some 40),(.binOp .sub 5 (.tmp 39) (.const (.int .u8 48)) 5),5,none⟩,
 ⟨(some 41),(.convert 5 3 (.tmp 40)),3,none⟩,
 ⟨(some 42),(.binOp .add 3 (.tmp 36) (.tmp 41) 3),3,none⟩,
 ⟨(some 3),(.assign (.tmp 42)),3,none⟩])))
 (.ops [
 ⟨(some 23),(.move (.tmp 4)),3,none⟩,
 ⟨(some 24),(.binOp .add 3 (.tmp 23) (.const (.int .i64 1)) 3),3,none⟩,
 ⟨(some 4),(.assign (.tmp 24)),3,none⟩]))
def jL:SC:= .loop VP
def k60:SC:=
 .seq
 (.ops [
 ⟨(some 2),(.assign (.const (.int .i64 0))),3,none⟩])
 (.seq
 (.seq
 (.ops [
 ⟨(some 5),(.move (.tmp 0)),9,none⟩,
 ⟨(some 6),(.call ⟨(.builtin .len), #[(.tmp 5)], #[9]⟩),3,none⟩,
 ⟨(some 7),(.call ⟨(.value (.func 51)), #[(.tmp 6),(.const (.int .i64 1)),(.const (.int .i64 6))], #[3,3,3]⟩),4,none⟩,
 ⟨(some 8),(.unOp .not 4 (.tmp 7)),4,none⟩,
 ⟨(some 9),(.move (.tmp 8)),4,none⟩,
 ⟨(some 10),(.move (.tmp 0)),9,(some (some 9,false))⟩,
 ⟨(some 11),(.index 9 (.tmp 10) (.const (.int .i64 0))),5,(some (some 9,false))⟩,
 ⟨(some 12),(.binOp .eql 5 (.tmp 11) (.const (.int .u8 48)) 5),4,(some (some 9,false))⟩,
 ⟨(some 13),(.move (.tmp 12)),4,(some (some 9,false))⟩,
 ⟨(some 14),(.move (.tmp 0)),9,(some (some 13,true))⟩,
 ⟨(some 15),(.call ⟨(.builtin .len), #[(.tmp 14)], #[9]⟩),3,(some (some 13,true))⟩,
 ⟨(some 16),(.binOp .gtr 3 (.tmp 15) (.const (.int .i64 1)) 3),4,(some (some 13,true))⟩,
 ⟨(some 17),(.pick (.tmp 13) (.tmp 16) (.const (.bool false))),4,(some (some 9,false))⟩,
 ⟨(some 18),(.pick (.tmp 9) (.const (.bool true)) (.tmp 17)),4,none⟩])
 (.cond (.tmp 18)
 (.seq
 (.ops [
 ⟨(some 2),(.assign (.const (.int .i64 (-1)))),3,none⟩])
 .ret)
 .skip))
 (.seq
 (.ops [
 ⟨(some 3),(.assign (.const (.int .i64 0))),3,none⟩])
 (.seq
 (.seq
 (.ops [
 ⟨(some 4),(.assign (.const (.int .i64 0))),3,none⟩])
 (.block 0
 jL))
 (.seq
 (.ops [
 ⟨(some 43),(.move (.tmp 3)),3,none⟩,
 ⟨(some 2),(.assign (.tmp 43)),3,none⟩])
 .ret))))
theorem wZ:Tryd.f60.body.map (CY lends)=some k60:=by kernel_rfl
theorem ADF:DR Tryd.f60 1=true:=by kernel_rfl
theorem c60{a l:List D}{r:D×List D}(h:Cu Y.env k60 (HZ Ak l.length [ResultVar.tmp 2] r) (entry a l))(ha:a.length=1):Y.call 60 a l=some r:=
 Ah (Y:=Y) rfl Tryd.func60 (ha▸ADF) wZ h
def DF(s_:ByteArray)(n_:Int)(i:Int)(s:St):Prop:=s.v 0=D.str s_∧s.v 3=D.int .i64 n_∧s.v 4=D.int .i64 i
def Ci(s_:ByteArray)(r:Unit⊕Int)(ex:Ex)(s:St):Prop:=match r with
 | .inl q=>ex= .ret∧s.v 2=D.int .i64 (-1)
 | .inr q=>ex= .exit 0∧s.v 3=D.int .i64 q
theorem Lx(s_:ByteArray){v:Int×Int}{s:St}{r:Unit⊕Int}(h:G9 s_ v=some r)(hM:DF s_ v.1 v.2 s):Cu Y.env jL (Ci s_ r) s:=by
 unfold G9 at h
 refine DL (c:=VP) (fun v=>Fe s_ v.1 v.2) (fun v s=>DF s_ v.1 v.2 s) (Ci s_) ?_ h hM
 clear h hM s v r
 intro v s o hM h
 obtain⟨n_,i⟩:=v
 dsimp only at h hM
 unfold Fe at h
 unfold DF at hM
 obtain⟨m0,m1,m2⟩:=hM
 unfold VP
 by_cases e6:i<(s_.size:Int)
 ·rw [if_pos e6]at h
  obtain⟨e7,h⟩:=Cf h
  by_cases e8:(U4 s_ i)<48
  ·rw [if_pos e8]at h
   obtain rfl:=Option.some.inj h
   simp (maxDischargeDepth:=9) only [↓AL,AB,AO,Ao,AC,AP,Ap,↓reduceIte,Nat.reduceEqDiff,Nat.reduceLT,Nat.reduceLeDiff,Nat.reduceAdd,Nat.reduceMul,Nat.reduceMod,Nat.reduceDiv,Nat.reducePow,Nat.reduceSub,Nat.reduceBEq,Int.reduceLE,Int.reduceLT,Int.reduceEq,Int.reduceSub,Int.reduceAdd,Int.reduceToNat,Int.reduceNeg,m0,m1,m2,e6,e7.1,e7.2,e8,DF,Ci,De,Df,Dh]<;>(repeat' apply And.intro)<;>first|rfl|exact⟨_,rfl⟩|exact⟨_,_,rfl⟩|simp [AJ,A7]
  ·rw [if_neg e8]at h
   by_cases e9:57<(U4 s_ i)
   ·rw [if_pos e9]at h
    obtain rfl:=Option.some.inj h
    simp (maxDischargeDepth:=9) only [↓AL,AB,AO,Ao,AC,AP,Ap,↓reduceIte,Nat.reduceEqDiff,Nat.reduceLT,Nat.reduceLeDiff,Nat.reduceAdd,Nat.reduceMul,Nat.reduceMod,Nat.reduceDiv,Nat.reducePow,Nat.reduceSub,Nat.reduceBEq,Int.reduceLE,Int.reduceLT,Int.reduceEq,Int.reduceSub,Int.reduceAdd,Int.reduceToNat,Int.reduceNeg,m0,m1,m2,e6,e7.1,e7.2,e8,e9,DF,Ci,De,Df,Dh]<;>(repeat' apply And.intro)<;>first|rfl|exact⟨_,rfl⟩|exact⟨_,_,rfl⟩|simp [AJ,A7]
   ·rw [if_neg e9]at h
    obtain rfl:=Option.some.inj h
    simp (maxDischargeDepth:=9) only [↓AL,AB,AO,Ao,AC,AP,Ap,↓reduceIte,Nat.reduceEqDiff,Nat.reduceLT,Nat.reduceLeDiff,Nat.reduceAdd,Nat.reduceMul,Nat.reduceMod,Nat.reduceDiv,Nat.reducePow,Nat.reduceSub,Nat.reduceBEq,Int.reduceLE,Int.reduceLT,Int.reduceEq,Int.reduceSub,Int.reduceAdd,Int.reduceToNat,Int.reduceNeg,m0,m1,m2,e6,e7.1,e7.2,e8,e9,DF,Ci,De,Df,Dh]<;>(repeat' apply And.intro)<;>first|rfl|exact⟨_,rfl⟩|exact⟨_,_,rfl⟩|simp [AJ,A7]
 ·rw [if_neg e6]at h
  obtain rfl:=Option.some.inj h
  simp (maxDischargeDepth:=9) only [↓AL,AB,AO,Ao,AC,AP,Ap,↓reduceIte,Nat.reduceEqDiff,Nat.reduceLT,Nat.reduceLeDiff,Nat.reduceAdd,Nat.reduceMul,Nat.reduceMod,Nat.reduceDiv,Nat.reducePow,Nat.reduceSub,Nat.reduceBEq,Int.reduceLE,Int.reduceLT,Int.reduceEq,Int.reduceSub,Int.reduceAdd,Int.reduceToNat,Int.reduceNeg,m0,m1,m2,e6,DF,Ci,De,Df,Dh]<;>(repeat' apply And.intro)<;>first|rfl|exact⟨_,rfl⟩|exact⟨_,_,rfl⟩|simp [AJ,A7]
theorem Sv(s_:ByteArray){r:Int}(h:Lv s_=some r):Y.call 60 [D.str s_] []=some (D.int .i64 r,[]):=by
 refine c60 ?_ rfl
 unfold k60
 unfold Lv at h
 have c1:=MM (s_.size:Int) (1:Int) (6:Int)
 by_cases e2:(Kr (s_.size:Int) (1:Int) (6:Int))=true
 ·rw [if_pos e2]at h
  obtain⟨e3,h⟩:=Cf h
  by_cases e4:(U4 s_ 0)=48
  ·rw [if_pos e4]at h
   by_cases e5:1<(s_.size:Int)
   ·rw [if_pos e5]at h
    obtain rfl:=Option.some.inj h
    simp (maxDischargeDepth:=9) only [↓AL,AB,AO,Ao,AC,AP,Ap,↓reduceIte,Nat.reduceEqDiff,Nat.reduceLT,Nat.reduceLeDiff,Nat.reduceAdd,Nat.reduceMul,Nat.reduceMod,Nat.reduceDiv,Nat.reducePow,Nat.reduceSub,Nat.reduceBEq,Int.reduceLE,Int.reduceLT,Int.reduceEq,Int.reduceSub,Int.reduceAdd,Int.reduceToNat,Int.reduceNeg,c1,e2,e3,decide_eq_true e4,e5]<;>(repeat' apply And.intro)<;>first|rfl|exact⟨_,rfl⟩|exact⟨_,_,rfl⟩|simp [AJ,A7]
   ·rw [if_neg e5]at h
    obtain⟨AZ,hl7,h⟩:=BP h
    try dsimp only at h
    simp (maxDischargeDepth:=9) only [↓AL,AB,AO,Ao,AC,AP,Ap,↓reduceIte,Nat.reduceEqDiff,Nat.reduceLT,Nat.reduceLeDiff,Nat.reduceAdd,Nat.reduceMul,Nat.reduceMod,Nat.reduceDiv,Nat.reducePow,Nat.reduceSub,Nat.reduceBEq,Int.reduceLE,Int.reduceLT,Int.reduceEq,Int.reduceSub,Int.reduceAdd,Int.reduceToNat,Int.reduceNeg,c1,e2,e3,decide_eq_true e4,e5]
    refine C8 (Lx s_ hl7 ?_) ?_
    ·simp (maxDischargeDepth:=9) only [↓AL,AB,AO,Ao,AC,AP,Ap,↓reduceIte,Nat.reduceEqDiff,Nat.reduceLT,Nat.reduceLeDiff,Nat.reduceAdd,Nat.reduceMul,Nat.reduceMod,Nat.reduceDiv,Nat.reducePow,Nat.reduceSub,Nat.reduceBEq,Int.reduceLE,Int.reduceLT,Int.reduceEq,Int.reduceSub,Int.reduceAdd,Int.reduceToNat,Int.reduceNeg,c1,e2,e3,decide_eq_true e4,e5,DF]<;>(repeat' apply And.intro)<;>first|rfl|exact⟨_,rfl⟩|exact⟨_,_,rfl⟩|simp [AJ,A7]
    ·intro ex7 s7 hX7
     rcases AZ with q1000_|q1000_
     ·unfold Ci at hX7
      dsimp only at hX7 h
      obtain⟨rfl,n7_0⟩:=hX7
      obtain rfl:=Option.some.inj h
      simp (maxDischargeDepth:=9) only [↓AL,AB,AO,Ao,AC,AP,Ap,↓reduceIte,Nat.reduceEqDiff,Nat.reduceLT,Nat.reduceLeDiff,Nat.reduceAdd,Nat.reduceMul,Nat.reduceMod,Nat.reduceDiv,Nat.reducePow,Nat.reduceSub,Nat.reduceBEq,Int.reduceLE,Int.reduceLT,Int.reduceEq,Int.reduceSub,Int.reduceAdd,Int.reduceToNat,Int.reduceNeg,c1,e2,e3,decide_eq_true e4,e5,n7_0]<;>(repeat' apply And.intro)<;>first|rfl|exact⟨_,rfl⟩|exact⟨_,_,rfl⟩|simp [AJ,A7]
     ·unfold Ci at hX7
      dsimp only at hX7 h
      obtain⟨rfl,n7_0⟩:=hX7
      obtain rfl:=Option.some.inj h
      simp (maxDischargeDepth:=9) only [↓AL,AB,AO,Ao,AC,AP,Ap,↓reduceIte,Nat.reduceEqDiff,Nat.reduceLT,Nat.reduceLeDiff,Nat.reduceAdd,Nat.reduceMul,Nat.reduceMod,Nat.reduceDiv,Nat.reducePow,Nat.reduceSub,Nat.reduceBEq,Int.reduceLE,Int.reduceLT,Int.reduceEq,Int.reduceSub,Int.reduceAdd,Int.reduceToNat,Int.reduceNeg,c1,e2,e3,decide_eq_true e4,e5,n7_0]<;>(repeat' apply And.intro)<;>first|rfl|exact⟨_,rfl⟩|exact⟨_,_,rfl⟩|simp [AJ,A7]
  ·rw [if_neg e4]at h
   obtain⟨AZ,hl6,h⟩:=BP h
   try dsimp only at h
   simp (maxDischargeDepth:=9) only [↓AL,AB,AO,Ao,AC,AP,Ap,↓reduceIte,Nat.reduceEqDiff,Nat.reduceLT,Nat.reduceLeDiff,Nat.reduceAdd,Nat.reduceMul,Nat.reduceMod,Nat.reduceDiv,Nat.reducePow,Nat.reduceSub,Nat.reduceBEq,Int.reduceLE,Int.reduceLT,Int.reduceEq,Int.reduceSub,Int.reduceAdd,Int.reduceToNat,Int.reduceNeg,c1,e2,e3,e4]
   refine C8 (Lx s_ hl6 ?_) ?_
   ·simp (maxDischargeDepth:=9) only [↓AL,AB,AO,Ao,AC,AP,Ap,↓reduceIte,Nat.reduceEqDiff,Nat.reduceLT,Nat.reduceLeDiff,Nat.reduceAdd,Nat.reduceMul,Nat.reduceMod,Nat.reduceDiv,Nat.reducePow,Nat.reduceSub,Nat.reduceBEq,Int.reduceLE,Int.reduceLT,Int.reduceEq,Int.reduceSub,Int.reduceAdd,Int.reduceToNat,Int.reduceNeg,c1,e2,e3,e4,DF]<;>(repeat' apply And.intro)<;>first|rfl|exact⟨_,rfl⟩|exact⟨_,_,rfl⟩|simp [AJ,A7]
   ·intro ex6 s6 hX6
    rcases AZ with q1000_|q1000_
    ·unfold Ci at hX6
     dsimp only at hX6 h
     obtain⟨rfl,n6_0⟩:=hX6
     obtain rfl:=Option.some.inj h
     simp (maxDischargeDepth:=9) only [↓AL,AB,AO,Ao,AC,AP,Ap,↓reduceIte,Nat.reduceEqDiff,Nat.reduceLT,Nat.reduceLeDiff,Nat.reduceAdd,Nat.reduceMul,Nat.reduceMod,Nat.reduceDiv,Nat.reducePow,Nat.reduceSub,Nat.reduceBEq,Int.reduceLE,Int.reduceLT,Int.reduceEq,Int.reduceSub,Int.reduceAdd,Int.reduceToNat,Int.reduceNeg,c1,e2,e3,e4,n6_0]<;>(repeat' apply And.intro)<;>first|rfl|exact⟨_,rfl⟩|exact⟨_,_,rfl⟩|simp [AJ,A7]
    ·unfold Ci at hX6
     dsimp only at hX6 h
     obtain⟨rfl,n6_0⟩:=hX6
     obtain rfl:=Option.some.inj h
     simp (maxDischargeDepth:=9) only [↓AL,AB,AO,Ao,AC,AP,Ap,↓reduceIte,Nat.reduceEqDiff,Nat.reduceLT,Nat.reduceLeDiff,Nat.reduceAdd,Nat.reduceMul,Nat.reduceMod,Nat.reduceDiv,Nat.reducePow,Nat.reduceSub,Nat.reduceBEq,Int.reduceLE,Int.reduceLT,Int.reduceEq,Int.reduceSub,Int.reduceAdd,Int.reduceToNat,Int.reduceNeg,c1,e2,e3,e4,n6_0]<;>(repeat' apply And.intro)<;>first|rfl|exact⟨_,rfl⟩|exact⟨_,_,rfl⟩|simp [AJ,A7]
 ·rw [if_neg e2]at h
  have e2f:(Kr (s_.size:Int) (1:Int) (6:Int))=false:=Bool.eq_false_iff.mpr e2
  obtain rfl:=Option.some.inj h
  simp (maxDischargeDepth:=9) only [↓AL,AB,AO,Ao,AC,AP,Ap,↓reduceIte,Nat.reduceEqDiff,Nat.reduceLT,Nat.reduceLeDiff,Nat.reduceAdd,Nat.reduceMul,Nat.reduceMod,Nat.reduceDiv,Nat.reducePow,Nat.reduceSub,Nat.reduceBEq,Int.reduceLE,Int.reduceLT,Int.reduceEq,Int.reduceSub,Int.reduceAdd,Int.reduceToNat,Int.reduceNeg,c1,e2f]<;>(repeat' apply And.intro)<;>first|rfl|exact⟨_,rfl⟩|exact⟨_,_,rfl⟩|simp [AJ,A7]
noncomputable def Dr(words:List ByteArray)(out:List Int)(OC:Int):Option (((List Int)×Int)⊕(Unit⊕((List Int)))):=
 if OC<(words.length:Int)then
  ck (0≤OC∧OC.toNat<words.length)<|
  (Lv (words.getD OC.toNat default)).bind fun jM=>
  if jM<0 then
   if((words.getD OC.toNat default).toList==({data:= #[42]}:ByteArray).toList)=true then
    ck (out.length+1<1099511627776)<|
    some (Sum.inl ((out++[jM]),IntKind.i64.wrap (OC+1)))
   else
    some (Sum.inr (Sum.inl ()))
  else
   ck (out.length+1<1099511627776)<|
   some (Sum.inl ((out++[jM]),IntKind.i64.wrap (OC+1)))
 else
  some (Sum.inr (Sum.inr out))
noncomputable def I9(words:List ByteArray)(v:(List Int)×Int):Option (Unit⊕((List Int))):=Jk (fun v=>Dr words v.1 v.2) v
noncomputable def Iy(words:List ByteArray):Option ((List Int)×Bool):=
 (I9 words ([],0)).bind fun AZ=>
 match AZ with
 | .inl q1000_=>
  some ([],false)
 | .inr q1000_=>
  some (q1000_,true)
def VQ:SC:=
 .seq
 (.ops [
 ⟨(some 11),(.binOp .lss 3 (.tmp 10) (.tmp 9) 3),0,none⟩])
 (.seq
 (.cond (.tmp 11)
 .skip
 (.exit 0))
 (.seq
 (.block 1
 (.seq
 (.ops [
 ⟨(some 12),(.indexAddr 52 (.tmp 8) (.tmp 10)),0,none⟩,
 ⟨(some 13),(.load 9 (.tmp 12)),9,none⟩,
 ⟨(some 6),(.assign (.tmp 13)),9,none⟩])
 (.seq
 (.ops [
 ⟨(some 14),(.move (.tmp 6)),9,none⟩,
 ⟨(some 15),(.call ⟨(.value (.func 60)), #[(.tmp 14)], #[9]⟩),3,none⟩,
 ⟨(some 7),(.assign (.tmp 15)),3,none⟩])
 (.seq
 (.seq
 (.ops [
 ⟨(some 16),(.move (.tmp 7)),3,none⟩,
 ⟨(some 17),(.binOp .lss 3 (.tmp 16) (.const (.int .i64 0)) 3),4,none⟩,
 ⟨(some 18),(.move (.tmp 17)),4,none⟩,
 ⟨(some 19),(.move (.tmp 6)),9,(some (some 18,true))⟩,
 ⟨(some 20),(.binOp .neq 9 (.tmp 19) (.const (.string {data:= #[42]})) 9),4,(some (some 18,true))⟩,
 ⟨(some 21),(.pick (.tmp 18) (.tmp 20) (.const (.bool false))),4,none⟩])
 (.cond (.tmp 21)
 (.seq
 (.ops [
 ⟨(some 2),(.assign (.const (.slice none 0 0))),70,none⟩,
 ⟨(some 3),(.assign (.const (.bool false))),4,none⟩])
 .ret)
 .skip))
 (.ops [
 ⟨(some 22),(.move (.tmp 4)),70,none⟩,
 ⟨(some 23),(.move (.tmp 7)),3,none⟩,
 ⟨(some 24),(.buildSlice 70 1 #[(0,(.tmp 23))]),70,none⟩,
 ⟨(some 25),(.call ⟨(.builtin .append), #[(.tmp 22),(.tmp 24)], #[70,70]⟩),70,none⟩,
 ⟨(some 4),(.assign (.tmp 25)),70,none⟩])))))
 (.ops [
 ⟨(some 26),(.binOp .add 3 (.tmp 10) (.const (.int .i64 1)) 3),3,none⟩,
 ⟨(some 10),(.move (.tmp 26)),3,none⟩])))
def jO:SC:= .loop VQ
def k46:SC:=
 .seq
 (.ops [
 ⟨(some 2),(.assign (.const (.slice none 0 0))),70,none⟩,
 ⟨(some 3),(.assign (.const (.bool false))),4,none⟩])
 (.seq
 (.ops [
 ⟨(some 4),(.assign (.const (.slice none 0 0))),70,none⟩])
 (.seq
 (.seq
 (.ops [
 ⟨(some 8),(.move (.tmp 0)),52,none⟩,
 ⟨(some 9),(.call ⟨(.builtin .len), #[(.tmp 8)], #[52]⟩),3,none⟩,
 ⟨(some 10),(.move (.const (.int .i64 0))),3,none⟩])
 (.block 0
 jO))
 (.seq
 (.ops [
 ⟨(some 27),(.move (.tmp 4)),70,none⟩,
 ⟨(some 2),(.assign (.tmp 27)),70,none⟩,
 ⟨(some 3),(.assign (.const (.bool true))),4,none⟩])
 .ret)))
theorem wh:Tryd.f46.body.map (CY lends)=some k46:=by kernel_rfl
theorem ADH:DR Tryd.f46 1=true:=by kernel_rfl
theorem c46{a l:List D}{r:D×List D}(h:Cu Y.env k46 (HZ Ak l.length [ResultVar.tmp 2,ResultVar.tmp 3] r) (entry a l))(ha:a.length=1):Y.call 46 a l=some r:=
 Ah (Y:=Y) rfl Tryd.func46 (ha▸ADH) wh h
def Cb(words:List ByteArray)(out:List Int)(OC:Int)(s:St):Prop:=s.v 4=D.own 3 (AJ (D.int .i64) out)∧s.v 8=D.sl 9 (AJ D.str words)∧s.v 9=D.int .i64 (words.length:Int)∧s.v 10=D.int .i64 OC
def Cc(words:List ByteArray)(r:Unit⊕((List Int)))(ex:Ex)(s:St):Prop:=match r with
 | .inl q=>ex= .ret∧s.v 2=D.own 3 []∧s.v 3=D.bool false
 | .inr q=>ex= .exit 0∧s.v 4=D.own 3 (AJ (D.int .i64) q)
theorem OD(words:List ByteArray){v:(List Int)×Int}{s:St}{r:Unit⊕((List Int))}(h:I9 words v=some r)(hM:Cb words v.1 v.2 s):Cu Y.env jO (Cc words r) s:=by
 unfold I9 at h
 refine DL (c:=VQ) (fun v=>Dr words v.1 v.2) (fun v s=>Cb words v.1 v.2 s) (Cc words) ?_ h hM
 clear h hM s v r
 intro v s o hM h
 obtain⟨out,OC⟩:=v
 dsimp only at h hM
 unfold Dr at h
 unfold Cb at hM
 obtain⟨m0,m1,m2,m3⟩:=hM
 unfold VQ
 by_cases e1:OC<(words.length:Int)
 ·rw [if_pos e1]at h
  obtain⟨e2,h⟩:=Cf h
  obtain⟨jM,hl3,h⟩:=BP h
  try dsimp only at h
  have c3:=Sv (words.getD OC.toNat default) hl3
  by_cases e4:jM<0
  ·rw [if_pos e4]at h
   by_cases e5:((words.getD OC.toNat default).toList==({data:= #[42]}:ByteArray).toList)=true
   ·rw [if_pos e5]at h
    obtain⟨e6,h⟩:=Cf h
    obtain rfl:=Option.some.inj h
    simp (maxDischargeDepth:=9) only [↓AL,AB,AO,Ao,AC,AP,Ap,↓reduceIte,Nat.reduceEqDiff,Nat.reduceLT,Nat.reduceLeDiff,Nat.reduceAdd,Nat.reduceMul,Nat.reduceMod,Nat.reduceDiv,Nat.reducePow,Nat.reduceSub,Nat.reduceBEq,Int.reduceLE,Int.reduceLT,Int.reduceEq,Int.reduceSub,Int.reduceAdd,Int.reduceToNat,Int.reduceNeg,m0,m1,m2,m3,e1,e2.1,e2.2,c3,e4,e5,e6,Cb,Cc,De,Df,Dh]<;>(repeat' apply And.intro)<;>first|rfl|exact⟨_,rfl⟩|exact⟨_,_,rfl⟩|simp [AJ,A7]
   ·rw [if_neg e5]at h
    have e5f:((words.getD OC.toNat default).toList==({data:= #[42]}:ByteArray).toList)=false:=Bool.eq_false_iff.mpr e5
    obtain rfl:=Option.some.inj h
    simp (maxDischargeDepth:=9) only [↓AL,AB,AO,Ao,AC,AP,Ap,↓reduceIte,Nat.reduceEqDiff,Nat.reduceLT,Nat.reduceLeDiff,Nat.reduceAdd,Nat.reduceMul,Nat.reduceMod,Nat.reduceDiv,Nat.reducePow,Nat.reduceSub,Nat.reduceBEq,Int.reduceLE,Int.reduceLT,Int.reduceEq,Int.reduceSub,Int.reduceAdd,Int.reduceToNat,Int.reduceNeg,m0,m1,m2,m3,e1,e2.1,e2.2,c3,e4,e5f,Cb,Cc,De,Df,Dh]<;>(repeat' apply And.intro)<;>first|rfl|exact⟨_,rfl⟩|exact⟨_,_,rfl⟩|simp [AJ,A7]
  ·rw [if_neg e4]at h
   obtain⟨e5,h⟩:=Cf h
   obtain rfl:=Option.some.inj h
   simp (maxDischargeDepth:=9) only [↓AL,AB,AO,Ao,AC,AP,Ap,↓reduceIte,Nat.reduceEqDiff,Nat.reduceLT,Nat.reduceLeDiff,Nat.reduceAdd,Nat.reduceMul,Nat.reduceMod,Nat.reduceDiv,Nat.reducePow,Nat.reduceSub,Nat.reduceBEq,Int.reduceLE,Int.reduceLT,Int.reduceEq,Int.reduceSub,Int.reduceAdd,Int.reduceToNat,Int.reduceNeg,m0,m1,m2,m3,e1,e2.1,e2.2,c3,e4,e5,Cb,Cc,De,Df,Dh]<;>(repeat' apply And.intro)<;>first|rfl|exact⟨_,rfl⟩|exact⟨_,_,rfl⟩|simp [AJ,A7]
 ·rw [if_neg e1]at h
  obtain rfl:=Option.some.inj h
  simp (maxDischargeDepth:=9) only [↓AL,AB,AO,Ao,AC,AP,Ap,↓reduceIte,Nat.reduceEqDiff,Nat.reduceLT,Nat.reduceLeDiff,Nat.reduceAdd,Nat.reduceMul,Nat.reduceMod,Nat.reduceDiv,Nat.reducePow,Nat.reduceSub,Nat.reduceBEq,Int.reduceLE,Int.reduceLT,Int.reduceEq,Int.reduceSub,Int.reduceAdd,Int.reduceToNat,Int.reduceNeg,m0,m1,m2,m3,e1,Cb,Cc,De,Df,Dh]<;>(repeat' apply And.intro)<;>first|rfl|exact⟨_,rfl⟩|exact⟨_,_,rfl⟩|simp [AJ,A7]
theorem Ox(words:List ByteArray){r:(List Int)×Bool}(h:Iy words=some r):Y.call 46 [D.sl 9 (AJ D.str words)] []=some (D.tup [D.own 3 (AJ (D.int .i64) r.1),D.bool r.2],[]):=by
 refine c46 ?_ rfl
 unfold k46
 unfold Iy at h
 obtain⟨AZ,hl2,h⟩:=BP h
 try dsimp only at h
 simp (maxDischargeDepth:=9) only [↓AL,AB,AO,Ao,AC,AP,Ap,↓reduceIte,Nat.reduceEqDiff,Nat.reduceLT,Nat.reduceLeDiff,Nat.reduceAdd,Nat.reduceMul,Nat.reduceMod,Nat.reduceDiv,Nat.reducePow,Nat.reduceSub,Nat.reduceBEq,Int.reduceLE,Int.reduceLT,Int.reduceEq,Int.reduceSub,Int.reduceAdd,Int.reduceToNat,Int.reduceNeg]
 refine C8 (OD words hl2 ?_) ?_
 ·simp (maxDischargeDepth:=9) only [↓AL,AB,AO,Ao,AC,AP,Ap,↓reduceIte,Nat.reduceEqDiff,Nat.reduceLT,Nat.reduceLeDiff,Nat.reduceAdd,Nat.reduceMul,Nat.reduceMod,Nat.reduceDiv,Nat.reducePow,Nat.reduceSub,Nat.reduceBEq,Int.reduceLE,Int.reduceLT,Int.reduceEq,Int.reduceSub,Int.reduceAdd,Int.reduceToNat,Int.reduceNeg,Cb]<;>(repeat' apply And.intro)<;>first|rfl|exact⟨_,rfl⟩|exact⟨_,_,rfl⟩|simp [AJ,A7]
 ·intro ex2 s2 hX2
  rcases AZ with q1000_|q1000_
  ·unfold Cc at hX2
   dsimp only at hX2 h
   obtain⟨rfl,n2_0,n2_1⟩:=hX2
   obtain rfl:=Option.some.inj h
   simp (maxDischargeDepth:=9) only [↓AL,AB,AO,Ao,AC,AP,Ap,↓reduceIte,Nat.reduceEqDiff,Nat.reduceLT,Nat.reduceLeDiff,Nat.reduceAdd,Nat.reduceMul,Nat.reduceMod,Nat.reduceDiv,Nat.reducePow,Nat.reduceSub,Nat.reduceBEq,Int.reduceLE,Int.reduceLT,Int.reduceEq,Int.reduceSub,Int.reduceAdd,Int.reduceToNat,Int.reduceNeg,n2_0,n2_1]<;>(repeat' apply And.intro)<;>first|rfl|exact⟨_,rfl⟩|exact⟨_,_,rfl⟩|simp [AJ,A7]
  ·unfold Cc at hX2
   dsimp only at hX2 h
   obtain⟨rfl,n2_0⟩:=hX2
   obtain rfl:=Option.some.inj h
   simp (maxDischargeDepth:=9) only [↓AL,AB,AO,Ao,AC,AP,Ap,↓reduceIte,Nat.reduceEqDiff,Nat.reduceLT,Nat.reduceLeDiff,Nat.reduceAdd,Nat.reduceMul,Nat.reduceMod,Nat.reduceDiv,Nat.reducePow,Nat.reduceSub,Nat.reduceBEq,Int.reduceLE,Int.reduceLT,Int.reduceEq,Int.reduceSub,Int.reduceAdd,Int.reduceToNat,Int.reduceNeg,n2_0]<;>(repeat' apply And.intro)<;>first|rfl|exact⟨_,rfl⟩|exact⟨_,_,rfl⟩|simp [AJ,A7]
noncomputable def CQ(I8:ByteArray)(Fh:(List ByteArray))(t5_0:Int)(t5_1:Int)(t5_2:List (List Int))(t5_3:List (List Int))(LA:Int):Option ((Int×Int×(List (List Int))×(List (List Int))×Int)⊕(Unit⊕(Int×Int×(List (List Int))×(List (List Int))))):=
 if LA<(((Fh.take ((IntKind.i64.wrap ((Fh.length:Int)-1)).toNat)).drop 0).length:Int)then
  ck (0≤LA∧LA.toNat<((Fh.take ((IntKind.i64.wrap ((Fh.length:Int)-1)).toNat)).drop 0).length)<|
  (JM (((Fh.take ((IntKind.i64.wrap ((Fh.length:Int)-1)).toNat)).drop 0).getD LA.toNat default) (32:Int)).bind fun IA=>
  ck (1≤IA.length)<|
  (Iy ((IA.drop 1).take (IA.length-1))).bind fun Mc=>
  if Mc.2=true then
   if LA=0 then
    ck (0<IA.length)<|
    if((IA.getD 0 default).toList==({data:= #[112,114,111,98,108,101,109]}:ByteArray).toList)=true then
     if(Mc.1.length:Int)=2 then
      ck (0<Mc.1.length)<|
      ck (1<Mc.1.length)<|
      some (Sum.inl ((Mc.1.getD 0 default),(Mc.1.getD 1 default),t5_2,t5_3,IntKind.i64.wrap (LA+1)))
     else
      if((IA.getD 0 default).toList==({data:= #[110,111,100,101]}:ByteArray).toList)=true then
       ck (t5_2.length+1<1099511627776)<|
       some (Sum.inl (t5_0,t5_1,(t5_2++[Mc.1]),t5_3,IntKind.i64.wrap (LA+1)))
      else
       if((IA.getD 0 default).toList==({data:= #[101,100,103,101]}:ByteArray).toList)=true then
        ck (t5_3.length+1<1099511627776)<|
        some (Sum.inl (t5_0,t5_1,t5_2,(t5_3++[Mc.1]),IntKind.i64.wrap (LA+1)))
       else
        some (Sum.inr (Sum.inl ()))
    else
     if((IA.getD 0 default).toList==({data:= #[110,111,100,101]}:ByteArray).toList)=true then
      ck (t5_2.length+1<1099511627776)<|
      some (Sum.inl (t5_0,t5_1,(t5_2++[Mc.1]),t5_3,IntKind.i64.wrap (LA+1)))
     else
      if((IA.getD 0 default).toList==({data:= #[101,100,103,101]}:ByteArray).toList)=true then
       ck (t5_3.length+1<1099511627776)<|
       some (Sum.inl (t5_0,t5_1,t5_2,(t5_3++[Mc.1]),IntKind.i64.wrap (LA+1)))
      else
       some (Sum.inr (Sum.inl ()))
   else
    ck (0<IA.length)<|
    if((IA.getD 0 default).toList==({data:= #[110,111,100,101]}:ByteArray).toList)=true then
     ck (t5_2.length+1<1099511627776)<|
     some (Sum.inl (t5_0,t5_1,(t5_2++[Mc.1]),t5_3,IntKind.i64.wrap (LA+1)))
    else
     if((IA.getD 0 default).toList==({data:= #[101,100,103,101]}:ByteArray).toList)=true then
      ck (t5_3.length+1<1099511627776)<|
      some (Sum.inl (t5_0,t5_1,t5_2,(t5_3++[Mc.1]),IntKind.i64.wrap (LA+1)))
     else
      some (Sum.inr (Sum.inl ()))
  else
   some (Sum.inr (Sum.inl ()))
 else
  some (Sum.inr (Sum.inr (t5_0,t5_1,t5_2,t5_3)))
noncomputable def ET(I8:ByteArray)(Fh:(List ByteArray))(v:Int×Int×(List (List Int))×(List (List Int))×Int):Option (Unit⊕(Int×Int×(List (List Int))×(List (List Int)))):=Jk (fun v=>CQ I8 Fh v.1 v.2.1 v.2.2.1 v.2.2.2.1 v.2.2.2.2) v
noncomputable def F4(I8:ByteArray):Option (Int×Int×(List (List Int))×(List (List Int))×Bool):=
 (JM I8 (10:Int)).bind fun Fh=>
 ck (0≤IntKind.i64.wrap ((Fh.length:Int)-1))<|
 ck ((IntKind.i64.wrap ((Fh.length:Int)-1)).toNat≤Fh.length)<|
 (ET I8 Fh (0,0,[],[],0)).bind fun AZ=>
 match AZ with
 | .inl q1000_=>
  some (0,0,[],[],false)
 | .inr q1000_=>
  ck (BV q1000_.2.2.1)<|
  ck (BV q1000_.2.2.2)<|
  if(DZ q1000_.1 q1000_.2.1 q1000_.2.2.1 q1000_.2.2.2)=true then
   (Lr q1000_.1 q1000_.2.1 q1000_.2.2.1 q1000_.2.2.2).bind fun mF=>
   if(mF.toList==I8.toList)=true then
    some (q1000_.1,q1000_.2.1,q1000_.2.2.1,q1000_.2.2.2,true)
   else
    some (0,0,[],[],false)
  else
   some (0,0,[],[],false)
def VS:SC:=
 .seq
 (.ops [
 ⟨(some 20),(.binOp .lss 3 (.tmp 19) (.tmp 18) 3),0,none⟩])
 (.seq
 (.cond (.tmp 20)
 .skip
 (.exit 0))
 (.seq
 (.block 1
 (.seq
 (.ops [
 ⟨(some 21),(.move (.tmp 19)),3,none⟩,
 ⟨(some 22),(.indexAddr 52 (.tmp 17) (.tmp 19)),0,none⟩,
 ⟨(some 23),(.load 9 (.tmp 22)),9,none⟩,
 ⟨(some 6),(.assign (.tmp 21)),3,none⟩,
 ⟨(some 7),(.assign (.tmp 23)),9,none⟩])
 (.seq
 (.ops [
 ⟨(some 24),(.move (.tmp 7)),9,none⟩,
 ⟨(some 25),(.call ⟨(.value (.func 33)), #[(.tmp 24),(.const (.int .u8 32))], #[9,5]⟩),52,none⟩,
 ⟨(some 8),(.assign (.tmp 25)),52,none⟩])
 (.seq
 (.ops [
 ⟨(some 27),(.move (.tmp 8)),52,none⟩,
 ⟨(some 28),(.slice 52 (.tmp 27) (some (.const (.int .i64 1))) none none),900001,none⟩,
 ⟨(some 29),(.call ⟨(.value (.func 46)), #[(.tmp 28)], #[52]⟩),71,none⟩,
 ⟨(some 26),(.move (.tmp 29)),71,none⟩,
 ⟨(some 30),(.extract (.tmp 26) 0),70,none⟩,
 ⟨(some 31),(.extract (.tmp 26) 1),4,none⟩,
 ⟨(some 9),(.assign (.tmp 30)),70,none⟩,
 ⟨(some 10),(.assign (.tmp 31)),4,none⟩])
 (.block 2
 (.seq
 (.ops [
 ⟨(some 34),(.move (.tmp 10)),4,none⟩,
 ⟨(some 35),(.move (.tmp 34)),4,none⟩,
 ⟨(some 36),(.move (.tmp 6)),3,(some (some 35,true))⟩,
 ⟨(some 37),(.binOp .eql 3 (.tmp 36) (.const (.int .i64 0)) 3),4,(some (some 35,true))⟩,
 ⟨(some 38),(.pick (.tmp 35) (.tmp 37) (.const (.bool false))),4,none⟩,
 ⟨(some 39),(.move (.tmp 38)),4,none⟩,
 ⟨(some 40),(.move (.tmp 8)),52,(some (some 39,true))⟩,
 ⟨(some 41),(.indexAddr 52 (.tmp 40) (.const (.int .i64 0))),0,(some (some 39,true))⟩,
 ⟨(some 42),(.load 9 (.tmp 41)),9,(some (some 39,true))⟩,
 ⟨(some 43),(.binOp .eql 9 (.tmp 42) (.const (.string {data:= #[112,114,111,98,108,101,109]})) 9),4,(some (some 39,true))⟩,
 ⟨(some 44),(.pick (.tmp 39) (.tmp 43) (.const (.bool false))),4,none⟩,
 ⟨(some 45),(.move (.tmp 44)),4,none⟩,
 ⟨(some 46),(.move (.tmp 9)),70,(some (some 45,true))⟩,
 ⟨(some 47),(.call ⟨(.builtin .len), #[(.tmp 46)], #[70]⟩),3,(some (some 45,true))⟩,
 ⟨(some 48),(.binOp .eql 3 (.tmp 47) (.const (.int .i64 2)) 3),4,(some (some 45,true))⟩,
 ⟨(some 49),(.pick (.tmp 45) (.tmp 48) (.const (.bool false))),4,none⟩,
 ⟨(some 33),(.assign (.tmp 49)),4,none⟩])
 (.cond (.tmp 33)
 (.seq
 (.ops [
 ⟨(some 50),(.move (.tmp 9)),70,none⟩,
 ⟨(some 51),(.indexAddr 70 (.tmp 50) (.const (.int .i64 0))),0,none⟩,
 ⟨(some 52),(.load 3 (.tmp 51)),3,none⟩,
 ⟨(some 53),(.fieldAddr 39 (.tmp 5) 0),0,none⟩,
 ⟨none,(.store 3 (.tmp 53) (.tmp 52)),0,none⟩])
 (.ops [
 ⟨(some 54),(.move (.tmp 9)),70,none⟩,
 ⟨(some 55),(.indexAddr 70 (.tmp 54) (.const (.int .i64 1))),0,none⟩,
 ⟨(some 56),(.load 3 (.tmp 55)),3,none⟩,
 ⟨(some 57),(.fieldAddr 39 (.tmp 5) 1),0,none⟩,
 ⟨none,(.store 3 (.tmp 57) (.tmp 56)),0,none⟩]))
 (.seq
 (.ops [
 ⟨(some 59),(.move (.tmp 10)),4,none⟩,
 ⟨(some 60),(.move (.tmp 59)),4,none⟩,
 ⟨(some 61),(.move (.tmp 8)),52,(some (some 60,true))⟩,
 ⟨(some 62),(.indexAddr 52 (.tmp 61) (.const (.int .i64 0))),0,(some (some 60,true))⟩,
 ⟨(some 63),(.load 9 (.tmp 62)),9,(some (some 60,true))⟩,
 ⟨(some 64),(.binOp .eql 9 (.tmp 63) (.const (.string {data:= #[110,111,100,101]})) 9),4,(some (some 60,true))⟩,
 ⟨(some 65),(.pick (.tmp 60) (.tmp 64) (.const (.bool false))),4,none⟩,
 ⟨(some 58),(.assign (.tmp 65)),4,none⟩])
 (.cond (.tmp 58)
 (.ops [
 ⟨(some 66),(.fieldAddr 39 (.tmp 5) 2),0,none⟩,
 ⟨(some 67),(.load 34 (.tmp 66)),34,none⟩,
 ⟨(some 68),(.move (.tmp 9)),70,none⟩,
 ⟨(some 69),(.buildSlice 34 1 #[(0,(.tmp 68))]),34,none⟩,
 ⟨(some 70),(.call ⟨(.builtin .append), #[(.tmp 67),(.tmp 69)], #[34,34]⟩),34,none⟩,
 ⟨(some 71),(.fieldAddr 39 (.tmp 5) 2),0,none⟩,
 ⟨none,(.store 34 (.tmp 71) (.tmp 70)),0,none⟩])
 (.seq
 (.ops [
 ⟨(some 73),(.move (.tmp 10)),4,none⟩,
 ⟨(some 74),(.move (.tmp 73)),4,none⟩,
 ⟨(some 75),(.move (.tmp 8)),52,(some (some 74,true))⟩,
 ⟨(some 76),(.indexAddr 52 (.tmp 75) (.const (.int .i64 0))),0,(some (some 74,true))⟩,
 ⟨(some 77),(.load 9 (.tmp 76)),9,(some (some 74,true))⟩,
 ⟨(some 78),(.binOp .eql 9 (.tmp 77) (.const (.string {data:= #[101,100,103,101]})) 9),4,(some (some 74,true))⟩,
 ⟨(some 79),(.pick (.tmp 74) (.tmp 78) (.const (.bool false))),4,none⟩,
 ⟨(some 72),(.assign (.tmp 79)),4,none⟩])
 (.cond (.tmp 72)
 (.ops [
 ⟨(some 80),(.fieldAddr 39 (.tmp 5) 3),0,none⟩,
 ⟨(some 81),(.load 34 (.tmp 80)),34,none⟩,
 ⟨(some 82),(.move (.tmp 9)),70,none⟩,
 ⟨(some 83),(.buildSlice 34 1 #[(0,(.tmp 82))]),34,none⟩,
 ⟨(some 84),(.call ⟨(.builtin .append), #[(.tmp 81),(.tmp 83)], #[34,34]⟩),34,none⟩,
 ⟨(some 85),(.fieldAddr 39 (.tmp 5) 3),0,none⟩,
 ⟨none,(.store 34 (.tmp 85) (.tmp 84)),0,none⟩])
 (.seq
 (.ops [
 ⟨(some 32),(.build 39 #[]),39,none⟩,
 ⟨none,(.store 39 (.tmp 2) (.tmp 32)),0,none⟩,
 ⟨(some 3),(.assign (.const (.bool false))),4,none⟩])
 .ret))))))))))))
 (.ops [
 ⟨(some 86),(.binOp .add 3 (.tmp 19) (.const (.int .i64 1)) 3),3,none⟩,
 ⟨(some 19),(.move (.tmp 86)),3,none⟩])))
def jP:SC:= .loop VS
def k21:SC:=
 .seq
 (.ops [
 ⟨(some 2),(.alloc 39),0,none⟩,
 ⟨(some 3),(.assign (.const (.bool false))),4,none⟩])
 (.seq
 (.ops [
 ⟨(some 11),(.move (.tmp 0)),9,none⟩,
 ⟨(some 12),(.call ⟨(.value (.func 33)), #[(.tmp 11),(.const (.int .u8 10))], #[9,5]⟩),52,none⟩,
 ⟨(some 4),(.assign (.tmp 12)),52,none⟩])
 (.seq
 (.ops [
 ⟨(some 5),(.alloc 39),0,none⟩])
 (.seq
 (.seq
 (.ops [
 ⟨(some 13),(.move (.tmp 4)),52,none⟩,
 ⟨(some 14),(.move (.tmp 4)),52,none⟩,
 ⟨(some 15),(.call ⟨(.builtin .len), #[(.tmp 14)], #[52]⟩),3,none⟩,
 ⟨(some 16),(.binOp .sub 3 (.tmp 15) (.const (.int .i64 1)) 3),3,none⟩,
 ⟨(some 17),(.slice 52 (.tmp 13) none (some (.tmp 16)) none),52,none⟩,
 ⟨(some 18),(.call ⟨(.builtin .len), #[(.tmp 17)], #[52]⟩),3,none⟩,
 ⟨(some 19),(.move (.const (.int .i64 0))),3,none⟩])
 (.block 0
 jP))
 (.seq
 (.seq
 (.ops [
 ⟨(some 87),(.load 39 (.tmp 5)),39,none⟩,
 ⟨(some 88),(.call ⟨(.value (.func 40)), #[(.tmp 87)], #[39]⟩),4,none⟩,
 ⟨(some 89),(.unOp .not 4 (.tmp 88)),4,none⟩,
 ⟨(some 90),(.move (.tmp 89)),4,none⟩,
 ⟨(some 91),(.load 39 (.tmp 5)),39,(some (some 90,false))⟩,
 ⟨(some 92),(.call ⟨(.value (.func 41)), #[(.tmp 91)], #[39]⟩),9,(some (some 90,false))⟩,
 ⟨(some 93),(.move (.tmp 0)),9,(some (some 90,false))⟩,
 ⟨(some 94),(.binOp .neq 9 (.tmp 92) (.tmp 93) 9),4,(some (some 90,false))⟩,
 ⟨(some 95),(.pick (.tmp 90) (.const (.bool true)) (.tmp 94)),4,none⟩])
 (.cond (.tmp 95)
 (.seq
 (.ops [
 ⟨(some 96),(.build 39 #[]),39,none⟩,
 ⟨none,(.store 39 (.tmp 2) (.tmp 96)),0,none⟩,
 ⟨(some 3),(.assign (.const (.bool false))),4,none⟩])
 .ret)
 .skip))
 (.seq
 (.ops [
 ⟨(some 97),(.load 39 (.tmp 5)),39,none⟩,
 ⟨none,(.store 39 (.tmp 2) (.tmp 97)),0,none⟩,
 ⟨(some 3),(.assign (.const (.bool true))),4,none⟩])
 .ret)))))
theorem wm:Tryd.f21.body.map (CY lends)=some k21:=by kernel_rfl
theorem ADJ:DR Tryd.f21 1=true:=by kernel_rfl
theorem c21{a l:List D}{r:D×List D}(h:Cu Y.env k21 (HZ Ak l.length [ResultVar.cell 2 39,ResultVar.tmp 3] r) (entry a l))(ha:a.length=1):Y.call 21 a l=some r:=
 Ah (Y:=Y) rfl Tryd.func21 (ha▸ADJ) wm h
def Al(I8:ByteArray)(Fh:(List ByteArray))(t5_0:Int)(t5_1:Int)(t5_2:List (List Int))(t5_3:List (List Int))(LA:Int)(s:St):Prop:=s.v 0=D.str I8∧s.v 2=D.box [D.int .i64 0,D.int .i64 0,D.own 70 [],D.own 70 []]∧s.v 5=D.box [D.int .i64 t5_0,D.int .i64 t5_1,D.own 70 (AJ (fun x=>D.own 3 (AJ (D.int .i64) x)) t5_2),D.own 70 (AJ (fun x=>D.own 3 (AJ (D.int .i64) x)) t5_3)]∧s.v 17=D.sl 9 (AJ D.str ((Fh.take ((IntKind.i64.wrap ((Fh.length:Int)-1)).toNat)).drop 0))∧s.v 18=D.int .i64 (((Fh.take ((IntKind.i64.wrap ((Fh.length:Int)-1)).toNat)).drop 0).length:Int)∧s.v 19=D.int .i64 LA
def Am(I8:ByteArray)(Fh:(List ByteArray))(r:Unit⊕(Int×Int×(List (List Int))×(List (List Int))))(ex:Ex)(s:St):Prop:=match r with
 | .inl q=>ex= .ret∧s.v 2=D.box [D.int .i64 0,D.int .i64 0,D.own 70 [],D.own 70 []]∧s.v 3=D.bool false
 | .inr q=>ex= .exit 0∧s.v 0=D.str I8∧s.v 2=D.box [D.int .i64 0,D.int .i64 0,D.own 70 [],D.own 70 []]∧s.v 5=D.box [D.int .i64 q.1,D.int .i64 q.2.1,D.own 70 (AJ (fun x=>D.own 3 (AJ (D.int .i64) x)) q.2.2.1),D.own 70 (AJ (fun x=>D.own 3 (AJ (D.int .i64) x)) q.2.2.2)]
theorem M0(I8:ByteArray)(Fh:(List ByteArray)){v:Int×Int×(List (List Int))×(List (List Int))×Int}{s:St}{r:Unit⊕(Int×Int×(List (List Int))×(List (List Int)))}(h:ET I8 Fh v=some r)(hM:Al I8 Fh v.1 v.2.1 v.2.2.1 v.2.2.2.1 v.2.2.2.2 s):Cu Y.env jP (Am I8 Fh r) s:=by
 unfold ET at h
 refine DL (c:=VS) (fun v=>CQ I8 Fh v.1 v.2.1 v.2.2.1 v.2.2.2.1 v.2.2.2.2) (fun v s=>Al I8 Fh v.1 v.2.1 v.2.2.1 v.2.2.2.1 v.2.2.2.2 s) (Am I8 Fh) ?_ h hM
 clear h hM s v r
 intro v s o hM h
 obtain⟨t5_0,t5_1,t5_2,t5_3,LA⟩:=v
 dsimp only at h hM
 unfold CQ at h
 unfold Al at hM
 obtain⟨m0,m1,m2,m3,m4,m5⟩:=hM
 unfold VS
 by_cases e4:LA<(((Fh.take ((IntKind.i64.wrap ((Fh.length:Int)-1)).toNat)).drop 0).length:Int)
 ·rw [if_pos e4]at h
  obtain⟨e5,h⟩:=Cf h
  obtain⟨IA,hl6,h⟩:=BP h
  try dsimp only at h
  have c6:=Lu (((Fh.take ((IntKind.i64.wrap ((Fh.length:Int)-1)).toNat)).drop 0).getD LA.toNat default) (32:Int) hl6
  obtain⟨e7,h⟩:=Cf h
  obtain⟨Mc,hl8,h⟩:=BP h
  try dsimp only at h
  have c8:=Ox ((IA.drop 1).take (IA.length-1)) hl8
  by_cases e9:Mc.2=true
  ·rw [if_pos e9]at h
   by_cases Hd:LA=0
   ·rw [if_pos Hd]at h
    obtain⟨e11,h⟩:=Cf h
    by_cases e12:((IA.getD 0 default).toList==({data:= #[112,114,111,98,108,101,109]}:ByteArray).toList)=true
    ·rw [if_pos e12]at h
     by_cases e13:(Mc.1.length:Int)=2
     ·rw [if_pos e13]at h
      obtain⟨e14,h⟩:=Cf h
      obtain⟨e15,h⟩:=Cf h
      obtain rfl:=Option.some.inj h
      simp (maxDischargeDepth:=9) only [↓AL,AB,AO,Ao,AC,AP,Ap,↓reduceIte,Nat.reduceEqDiff,Nat.reduceLT,Nat.reduceLeDiff,Nat.reduceAdd,Nat.reduceMul,Nat.reduceMod,Nat.reduceDiv,Nat.reducePow,Nat.reduceSub,Nat.reduceBEq,Int.reduceLE,Int.reduceLT,Int.reduceEq,Int.reduceSub,Int.reduceAdd,Int.reduceToNat,Int.reduceNeg,m0,m1,m2,m3,m4,m5,e4,e5.1,e5.2,c6,e7,c8,e9,decide_eq_true Hd,e11,e12,decide_eq_true e13,e14,e15,Al,Am,De,Df,Dh]<;>(repeat' apply And.intro)<;>first|rfl|exact⟨_,rfl⟩|exact⟨_,_,rfl⟩|simp [AJ,A7]
     ·rw [if_neg e13]at h
      by_cases e14:((IA.getD 0 default).toList==({data:= #[110,111,100,101]}:ByteArray).toList)=true
      ·rw [if_pos e14]at h
       obtain⟨e15,h⟩:=Cf h
       obtain rfl:=Option.some.inj h
       simp (maxDischargeDepth:=9) only [↓AL,AB,AO,Ao,AC,AP,Ap,↓reduceIte,Nat.reduceEqDiff,Nat.reduceLT,Nat.reduceLeDiff,Nat.reduceAdd,Nat.reduceMul,Nat.reduceMod,Nat.reduceDiv,Nat.reducePow,Nat.reduceSub,Nat.reduceBEq,Int.reduceLE,Int.reduceLT,Int.reduceEq,Int.reduceSub,Int.reduceAdd,Int.reduceToNat,Int.reduceNeg,m0,m1,m2,m3,m4,m5,e4,e5.1,e5.2,c6,e7,c8,e9,decide_eq_true Hd,e11,e12,e13,e14,e15,Al,Am,De,Df,Dh]<;>(repeat' apply And.intro)<;>first|rfl|exact⟨_,rfl⟩|exact⟨_,_,rfl⟩|simp [AJ,A7]
      ·rw [if_neg e14]at h
       have e14f:((IA.getD 0 default).toList==({data:= #[110,111,100,101]}:ByteArray).toList)=false:=Bool.eq_false_iff.mpr e14
       by_cases e15:((IA.getD 0 default).toList==({data:= #[101,100,103,101]}:ByteArray).toList)=true
       ·rw [if_pos e15]at h
        obtain⟨e16,h⟩:=Cf h
        obtain rfl:=Option.some.inj h
        simp (maxDischargeDepth:=9) only [↓AL,AB,AO,Ao,AC,AP,Ap,↓reduceIte,Nat.reduceEqDiff,Nat.reduceLT,Nat.reduceLeDiff,Nat.reduceAdd,Nat.reduceMul,Nat.reduceMod,Nat.reduceDiv,Nat.reducePow,Nat.reduceSub,Nat.reduceBEq,Int.reduceLE,Int.reduceLT,Int.reduceEq,Int.reduceSub,Int.reduceAdd,Int.reduceToNat,Int.reduceNeg,m0,m1,m2,m3,m4,m5,e4,e5.1,e5.2,c6,e7,c8,e9,decide_eq_true Hd,e11,e12,e13,e14f,e15,e16,Al,Am,De,Df,Dh]<;>(repeat' apply And.intro)<;>first|rfl|exact⟨_,rfl⟩|exact⟨_,_,rfl⟩|simp [AJ,A7]
       ·rw [if_neg e15]at h
        have e15f:((IA.getD 0 default).toList==({data:= #[101,100,103,101]}:ByteArray).toList)=false:=Bool.eq_false_iff.mpr e15
        obtain rfl:=Option.some.inj h
        simp (maxDischargeDepth:=9) only [↓AL,AB,AO,Ao,AC,AP,Ap,↓reduceIte,Nat.reduceEqDiff,Nat.reduceLT,Nat.reduceLeDiff,Nat.reduceAdd,Nat.reduceMul,Nat.reduceMod,Nat.reduceDiv,Nat.reducePow,Nat.reduceSub,Nat.reduceBEq,Int.reduceLE,Int.reduceLT,Int.reduceEq,Int.reduceSub,Int.reduceAdd,Int.reduceToNat,Int.reduceNeg,m0,m1,m2,m3,m4,m5,e4,e5.1,e5.2,c6,e7,c8,e9,decide_eq_true Hd,e11,e12,e13,e14f,e15f,Al,Am,De,Df,Dh]<;>(repeat' apply And.intro)<;>first|rfl|exact⟨_,rfl⟩|exact⟨_,_,rfl⟩|simp [AJ,A7]
    ·rw [if_neg e12]at h
     have e12f:((IA.getD 0 default).toList==({data:= #[112,114,111,98,108,101,109]}:ByteArray).toList)=false:=Bool.eq_false_iff.mpr e12
     by_cases e13:((IA.getD 0 default).toList==({data:= #[110,111,100,101]}:ByteArray).toList)=true
     ·rw [if_pos e13]at h
      obtain⟨e14,h⟩:=Cf h
      obtain rfl:=Option.some.inj h
      simp (maxDischargeDepth:=9) only [↓AL,AB,AO,Ao,AC,AP,Ap,↓reduceIte,Nat.reduceEqDiff,Nat.reduceLT,Nat.reduceLeDiff,Nat.reduceAdd,Nat.reduceMul,Nat.reduceMod,Nat.reduceDiv,Nat.reducePow,Nat.reduceSub,Nat.reduceBEq,Int.reduceLE,Int.reduceLT,Int.reduceEq,Int.reduceSub,Int.reduceAdd,Int.reduceToNat,Int.reduceNeg,m0,m1,m2,m3,m4,m5,e4,e5.1,e5.2,c6,e7,c8,e9,decide_eq_true Hd,e11,e12f,e13,e14,Al,Am,De,Df,Dh]<;>(repeat' apply And.intro)<;>first|rfl|exact⟨_,rfl⟩|exact⟨_,_,rfl⟩|simp [AJ,A7]
     ·rw [if_neg e13]at h
      have e13f:((IA.getD 0 default).toList==({data:= #[110,111,100,101]}:ByteArray).toList)=false:=Bool.eq_false_iff.mpr e13
      by_cases e14:((IA.getD 0 default).toList==({data:= #[101,100,103,101]}:ByteArray).toList)=true
      ·rw [if_pos e14]at h
       obtain⟨e15,h⟩:=Cf h
       obtain rfl:=Option.some.inj h
       simp (maxDischargeDepth:=9) only [↓AL,AB,AO,Ao,AC,AP,Ap,↓reduceIte,Nat.reduceEqDiff,Nat.reduceLT,Nat.reduceLeDiff,Nat.reduceAdd,Nat.reduceMul,Nat.reduceMod,Nat.reduceDiv,Nat.reducePow,Nat.reduceSub,Nat.reduceBEq,Int.reduceLE,Int.reduceLT,Int.reduceEq,Int.reduceSub,Int.reduceAdd,Int.reduceToNat,Int.reduceNeg,m0,m1,m2,m3,m4,m5,e4,e5.1,e5.2,c6,e7,c8,e9,decide_eq_true Hd,e11,e12f,e13f,e14,e15,Al,Am,De,Df,Dh]<;>(repeat' apply And.intro)<;>first|rfl|exact⟨_,rfl⟩|exact⟨_,_,rfl⟩|simp [AJ,A7]
      ·rw [if_neg e14]at h
       have e14f:((IA.getD 0 default).toList==({data:= #[101,100,103,101]}:ByteArray).toList)=false:=Bool.eq_false_iff.mpr e14
       obtain rfl:=Option.some.inj h
       simp (maxDischargeDepth:=9) only [↓AL,AB,AO,Ao,AC,AP,Ap,↓reduceIte,Nat.reduceEqDiff,Nat.reduceLT,Nat.reduceLeDiff,Nat.reduceAdd,Nat.reduceMul,Nat.reduceMod,Nat.reduceDiv,Nat.reducePow,Nat.reduceSub,Nat.reduceBEq,Int.reduceLE,Int.reduceLT,Int.reduceEq,Int.reduceSub,Int.reduceAdd,Int.reduceToNat,Int.reduceNeg,m0,m1,m2,m3,m4,m5,e4,e5.1,e5.2,c6,e7,c8,e9,decide_eq_true Hd,e11,e12f,e13f,e14f,Al,Am,De,Df,Dh]<;>(repeat' apply And.intro)<;>first|rfl|exact⟨_,rfl⟩|exact⟨_,_,rfl⟩|simp [AJ,A7]
   ·rw [if_neg Hd]at h
    obtain⟨e11,h⟩:=Cf h
    by_cases e12:((IA.getD 0 default).toList==({data:= #[110,111,100,101]}:ByteArray).toList)=true
    ·rw [if_pos e12]at h
     obtain⟨e13,h⟩:=Cf h
     obtain rfl:=Option.some.inj h
     simp (maxDischargeDepth:=9) only [↓AL,AB,AO,Ao,AC,AP,Ap,↓reduceIte,Nat.reduceEqDiff,Nat.reduceLT,Nat.reduceLeDiff,Nat.reduceAdd,Nat.reduceMul,Nat.reduceMod,Nat.reduceDiv,Nat.reducePow,Nat.reduceSub,Nat.reduceBEq,Int.reduceLE,Int.reduceLT,Int.reduceEq,Int.reduceSub,Int.reduceAdd,Int.reduceToNat,Int.reduceNeg,m0,m1,m2,m3,m4,m5,e4,e5.1,e5.2,c6,e7,c8,e9,Hd,e11,e12,e13,Al,Am,De,Df,Dh]<;>(repeat' apply And.intro)<;>first|rfl|exact⟨_,rfl⟩|exact⟨_,_,rfl⟩|simp [AJ,A7]
    ·rw [if_neg e12]at h
     have e12f:((IA.getD 0 default).toList==({data:= #[110,111,100,101]}:ByteArray).toList)=false:=Bool.eq_false_iff.mpr e12
     by_cases e13:((IA.getD 0 default).toList==({data:= #[101,100,103,101]}:ByteArray).toList)=true
     ·rw [if_pos e13]at h
      obtain⟨e14,h⟩:=Cf h
      obtain rfl:=Option.some.inj h
      simp (maxDischargeDepth:=9) only [↓AL,AB,AO,Ao,AC,AP,Ap,↓reduceIte,Nat.reduceEqDiff,Nat.reduceLT,Nat.reduceLeDiff,Nat.reduceAdd,Nat.reduceMul,Nat.reduceMod,Nat.reduceDiv,Nat.reducePow,Nat.reduceSub,Nat.reduceBEq,Int.reduceLE,Int.reduceLT,Int.reduceEq,Int.reduceSub,Int.reduceAdd,Int.reduceToNat,Int.reduceNeg,m0,m1,m2,m3,m4,m5,e4,e5.1,e5.2,c6,e7,c8,e9,Hd,e11,e12f,e13,e14,Al,Am,De,Df,Dh]<;>(repeat' apply And.intro)<;>first|rfl|exact⟨_,rfl⟩|exact⟨_,_,rfl⟩|simp [AJ,A7]
     ·rw [if_neg e13]at h
      have e13f:((IA.getD 0 default).toList==({data:= #[101,100,103,101]}:ByteArray).toList)=false:=Bool.eq_false_iff.mpr e13
      obtain rfl:=Option.some.inj h
      simp (maxDischargeDepth:=9) only [↓AL,AB,AO,Ao,AC,AP,Ap,↓reduceIte,Nat.reduceEqDiff,Nat.reduceLT,Nat.reduceLeDiff,Nat.reduceAdd,Nat.reduceMul,Nat.reduceMod,Nat.reduceDiv,Nat.reducePow,Nat.reduceSub,Nat.reduceBEq,Int.reduceLE,Int.reduceLT,Int.reduceEq,Int.reduceSub,Int.reduceAdd,Int.reduceToNat,Int.reduceNeg,m0,m1,m2,m3,m4,m5,e4,e5.1,e5.2,c6,e7,c8,e9,Hd,e11,e12f,e13f,Al,Am,De,Df,Dh]<;>(repeat' apply And.intro)<;>first|rfl|exact⟨_,rfl⟩|exact⟨_,_,rfl⟩|simp [AJ,A7]
  ·rw [if_neg e9]at h
   have e9f:Mc.2=false:=Bool.eq_false_iff.mpr e9
   obtain rfl:=Option.some.inj h
   simp (maxDischargeDepth:=9) only [↓AL,AB,AO,Ao,AC,AP,Ap,↓reduceIte,Nat.reduceEqDiff,Nat.reduceLT,Nat.reduceLeDiff,Nat.reduceAdd,Nat.reduceMul,Nat.reduceMod,Nat.reduceDiv,Nat.reducePow,Nat.reduceSub,Nat.reduceBEq,Int.reduceLE,Int.reduceLT,Int.reduceEq,Int.reduceSub,Int.reduceAdd,Int.reduceToNat,Int.reduceNeg,m0,m1,m2,m3,m4,m5,e4,e5.1,e5.2,c6,e7,c8,e9f,Al,Am,De,Df,Dh]<;>(repeat' apply And.intro)<;>first|rfl|exact⟨_,rfl⟩|exact⟨_,_,rfl⟩|simp [AJ,A7]
 ·rw [if_neg e4]at h
  obtain rfl:=Option.some.inj h
  simp (maxDischargeDepth:=9) only [↓AL,AB,AO,Ao,AC,AP,Ap,↓reduceIte,Nat.reduceEqDiff,Nat.reduceLT,Nat.reduceLeDiff,Nat.reduceAdd,Nat.reduceMul,Nat.reduceMod,Nat.reduceDiv,Nat.reducePow,Nat.reduceSub,Nat.reduceBEq,Int.reduceLE,Int.reduceLT,Int.reduceEq,Int.reduceSub,Int.reduceAdd,Int.reduceToNat,Int.reduceNeg,m0,m1,m2,m3,m4,m5,e4,Al,Am,De,Df,Dh]<;>(repeat' apply And.intro)<;>first|rfl|exact⟨_,rfl⟩|exact⟨_,_,rfl⟩|simp [AJ,A7]
theorem Md(I8:ByteArray){r:Int×Int×(List (List Int))×(List (List Int))×Bool}(h:F4 I8=some r):Y.call 21 [D.str I8] []=some (D.tup [D.agg [D.int .i64 r.1,D.int .i64 r.2.1,D.own 70 (AJ (fun x=>D.own 3 (AJ (D.int .i64) x)) r.2.2.1),D.own 70 (AJ (fun x=>D.own 3 (AJ (D.int .i64) x)) r.2.2.2.1)],D.bool r.2.2.2.2],[]):=by
 refine c21 ?_ rfl
 unfold k21
 unfold F4 at h
 obtain⟨Fh,hl1,h⟩:=BP h
 try dsimp only at h
 have c1:=Lu I8 (10:Int) hl1
 obtain⟨e2,h⟩:=Cf h
 obtain⟨e3,h⟩:=Cf h
 obtain⟨AZ,hl5,h⟩:=BP h
 try dsimp only at h
 simp (maxDischargeDepth:=9) only [↓AL,AB,AO,Ao,AC,AP,Ap,↓reduceIte,Nat.reduceEqDiff,Nat.reduceLT,Nat.reduceLeDiff,Nat.reduceAdd,Nat.reduceMul,Nat.reduceMod,Nat.reduceDiv,Nat.reducePow,Nat.reduceSub,Nat.reduceBEq,Int.reduceLE,Int.reduceLT,Int.reduceEq,Int.reduceSub,Int.reduceAdd,Int.reduceToNat,Int.reduceNeg,c1,e2,e3]
 refine C8 (M0 I8 Fh hl5 ?_) ?_
 ·simp (maxDischargeDepth:=9) only [↓AL,AB,AO,Ao,AC,AP,Ap,↓reduceIte,Nat.reduceEqDiff,Nat.reduceLT,Nat.reduceLeDiff,Nat.reduceAdd,Nat.reduceMul,Nat.reduceMod,Nat.reduceDiv,Nat.reducePow,Nat.reduceSub,Nat.reduceBEq,Int.reduceLE,Int.reduceLT,Int.reduceEq,Int.reduceSub,Int.reduceAdd,Int.reduceToNat,Int.reduceNeg,c1,e2,e3,Al]<;>(repeat' apply And.intro)<;>first|rfl|exact⟨_,rfl⟩|exact⟨_,_,rfl⟩|simp [AJ,A7]
 ·intro ex5 s5 hX5
  rcases AZ with q1000_|q1000_
  ·unfold Am at hX5
   dsimp only at hX5 h
   obtain⟨rfl,n5_0,n5_1⟩:=hX5
   obtain rfl:=Option.some.inj h
   simp (maxDischargeDepth:=9) only [↓AL,AB,AO,Ao,AC,AP,Ap,↓reduceIte,Nat.reduceEqDiff,Nat.reduceLT,Nat.reduceLeDiff,Nat.reduceAdd,Nat.reduceMul,Nat.reduceMod,Nat.reduceDiv,Nat.reducePow,Nat.reduceSub,Nat.reduceBEq,Int.reduceLE,Int.reduceLT,Int.reduceEq,Int.reduceSub,Int.reduceAdd,Int.reduceToNat,Int.reduceNeg,c1,e2,e3,n5_0,n5_1]<;>(repeat' apply And.intro)<;>first|rfl|exact⟨_,rfl⟩|exact⟨_,_,rfl⟩|simp [AJ,A7]
  ·unfold Am at hX5
   dsimp only at hX5 h
   obtain⟨rfl,n5_0,n5_1,n5_2⟩:=hX5
   obtain⟨e6,h⟩:=Cf h
   obtain⟨e7,h⟩:=Cf h
   have c8:=XX q1000_.1 q1000_.2.1 q1000_.2.2.1 q1000_.2.2.2 e6 e7
   by_cases e9:(DZ q1000_.1 q1000_.2.1 q1000_.2.2.1 q1000_.2.2.2)=true
   ·rw [if_pos e9]at h
    obtain⟨mF,hl10,h⟩:=BP h
    try dsimp only at h
    have wI:=Su q1000_.1 q1000_.2.1 q1000_.2.2.1 q1000_.2.2.2 hl10
    by_cases e11:(mF.toList==I8.toList)=true
    ·rw [if_pos e11]at h
     obtain rfl:=Option.some.inj h
     simp (maxDischargeDepth:=9) only [↓AL,AB,AO,Ao,AC,AP,Ap,↓reduceIte,Nat.reduceEqDiff,Nat.reduceLT,Nat.reduceLeDiff,Nat.reduceAdd,Nat.reduceMul,Nat.reduceMod,Nat.reduceDiv,Nat.reducePow,Nat.reduceSub,Nat.reduceBEq,Int.reduceLE,Int.reduceLT,Int.reduceEq,Int.reduceSub,Int.reduceAdd,Int.reduceToNat,Int.reduceNeg,c1,e2,e3,n5_0,n5_1,n5_2,e6,e7,c8,e9,wI,e11]<;>(repeat' apply And.intro)<;>first|rfl|exact⟨_,rfl⟩|exact⟨_,_,rfl⟩|simp [AJ,A7]
    ·rw [if_neg e11]at h
     have e11f:(mF.toList==I8.toList)=false:=Bool.eq_false_iff.mpr e11
     obtain rfl:=Option.some.inj h
     simp (maxDischargeDepth:=9) only [↓AL,AB,AO,Ao,AC,AP,Ap,↓reduceIte,Nat.reduceEqDiff,Nat.reduceLT,Nat.reduceLeDiff,Nat.reduceAdd,Nat.reduceMul,Nat.reduceMod,Nat.reduceDiv,Nat.reducePow,Nat.reduceSub,Nat.reduceBEq,Int.reduceLE,Int.reduceLT,Int.reduceEq,Int.reduceSub,Int.reduceAdd,Int.reduceToNat,Int.reduceNeg,c1,e2,e3,n5_0,n5_1,n5_2,e6,e7,c8,e9,wI,e11f]<;>(repeat' apply And.intro)<;>first|rfl|exact⟨_,rfl⟩|exact⟨_,_,rfl⟩|simp [AJ,A7]
   ·rw [if_neg e9]at h
    have e9f:(DZ q1000_.1 q1000_.2.1 q1000_.2.2.1 q1000_.2.2.2)=false:=Bool.eq_false_iff.mpr e9
    obtain rfl:=Option.some.inj h
    simp (maxDischargeDepth:=9) only [↓AL,AB,AO,Ao,AC,AP,Ap,↓reduceIte,Nat.reduceEqDiff,Nat.reduceLT,Nat.reduceLeDiff,Nat.reduceAdd,Nat.reduceMul,Nat.reduceMod,Nat.reduceDiv,Nat.reducePow,Nat.reduceSub,Nat.reduceBEq,Int.reduceLE,Int.reduceLT,Int.reduceEq,Int.reduceSub,Int.reduceAdd,Int.reduceToNat,Int.reduceNeg,c1,e2,e3,n5_0,n5_1,n5_2,e6,e7,c8,e9f]<;>(repeat' apply And.intro)<;>first|rfl|exact⟨_,rfl⟩|exact⟨_,_,rfl⟩|simp [AJ,A7]
end Go.Proofs.YtaogbcdlpgfplaaDoor
