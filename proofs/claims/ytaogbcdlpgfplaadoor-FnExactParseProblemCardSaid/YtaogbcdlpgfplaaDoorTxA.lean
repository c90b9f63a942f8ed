/- Texts of problems, lifted. Conditions: none. -/
import Derived.Test.YtaogbcdlpgfplaaDoorL6
import Derived.Test.YtaogbcdlpgfplaaDoorIsP
import Derived.Test.YtaogbcdlpgfplaaDoorPB
namespace Go.Proofs.YtaogbcdlpgfplaaDoor
open Go Dv
set_option linter.unusedSimpArgs false
set_option linter.unusedVariables false
set_option maxRecDepth 100000
set_option maxHeartbeats 4000000
noncomputable def Dp(numbers:List Int)(word1:ByteArray)(J8:Int):Option ((ByteArray×Int)⊕(ByteArray)):=
 if J8<(numbers.length:Int)then
  ck (0≤J8∧J8.toNat<numbers.length)<|
  if(numbers.getD J8.toNat default)=(-1)then
   ck (word1.size+({data:= #[32,42]}:ByteArray).size<1099511627776)<|
   some (Sum.inl ((word1++({data:= #[32,42]}:ByteArray)),IntKind.i64.wrap (J8+1)))
  else
   ck (-9223372036854775808≤(numbers.getD J8.toNat default)∧(numbers.getD J8.toNat default)≤9223372036854775807)<|
   ck (({data:= #[32]}:ByteArray).size+(G5 (numbers.getD J8.toNat default)).size<1099511627776)<|
   ck (word1.size+(({data:= #[32]}:ByteArray)++(G5 (numbers.getD J8.toNat default))).size<1099511627776)<|
   some (Sum.inl ((word1++(({data:= #[32]}:ByteArray)++(G5 (numbers.getD J8.toNat default)))),IntKind.i64.wrap (J8+1)))
 else
  some (Sum.inr word1)
noncomputable def I5(numbers:List Int)(v:ByteArray×Int):Option (ByteArray):=Jk (fun v=>Dp numbers v.1 v.2) v
noncomputable def G7(word:ByteArray)(numbers:List Int):Option (ByteArray):=
 (I5 numbers (word,0)).bind fun AZ=>
 some AZ
def VD:SC:=
 .seq
 (.ops [
 ⟨(some 10),(.binOp .lss 3 (.tmp 9) (.tmp 8) 3),0,none⟩])
 (.seq
 (.cond (.tmp 10)
 .skip
 (.exit 0))
 (.seq
 (.block 1
 (.seq
 (.ops [
 ⟨(some 11),(.indexAddr 70 (.tmp 7) (.tmp 9)),0,none⟩,
 ⟨(some 12),(.load 3 (.tmp 11)),3,none⟩,
 ⟨(some 6),(.assign (.tmp 12)),3,none⟩])
 (.seq
 (.ops [
 ⟨(some 13),(.move (.tmp 6)),3,none⟩,
 ⟨(some 14),(.binOp .eql 3 (.tmp 13) (.const (.int .i64 (-1))) 3),4,none⟩])
 (.cond (.tmp 14)
 (.ops [
 ⟨(some 15),(.move (.tmp 0)),9,none⟩,
 ⟨(some 16),(.binOp .add 9 (.tmp 15) (.const (.string {data:= #[32,42]})) 9),9,none⟩,
 ⟨(some 0),(.assign (.tmp 16)),9,none⟩])
 (.ops [
 ⟨(some 17),(.move (.tmp 0)),9,none⟩,
 ⟨(some 18),(.move (.tmp 6)),3,none⟩,
 ⟨(some 19),(.call ⟨(.value (.func 29)), #[(.tmp 18)], #[3]⟩),9,none⟩,
 ⟨(some 20),(.binOp .add 9 (.const (.string {data:= #[32]})) (.tmp 19) 9),9,none⟩,
 ⟨(some 21),(.binOp .add 9 (.tmp 17) (.tmp 20) 9),9,none⟩,
 ⟨(some 0),(.assign (.tmp 21)),9,none⟩])))))
 (.ops [
 ⟨(some 22),(.binOp .add 3 (.tmp 9) (.const (.int .i64 1)) 3),3,none⟩,
 ⟨(some 9),(.move (.tmp 22)),3,none⟩])))
def jB:SC:= .loop VD
def k69:SC:=
 .seq
 (.ops [
 ⟨(some 4),(.assign (.const (.string {data:= #[]}))),9,none⟩])
 (.seq
 (.seq
 (.ops [
 ⟨(some 7),(.move (.tmp 1)),70,none⟩,
 ⟨(some 8),(.call ⟨(.builtin .len), #[(.tmp 7)], #[70]⟩),3,none⟩,
 ⟨(some 9),(.move (.const (.int .i64 0))),3,none⟩])
 (.block 0
 jB))
 (.seq
 (.ops [
 ⟨(some 23),(.move (.tmp 0)),9,none⟩,
 ⟨(some 4),(.assign (.tmp 23)),9,none⟩])
 .ret))
theorem wK:Tryd.f69.body.map (CY lends)=some k69:=by kernel_rfl
theorem ACo:DR Tryd.f69 2=true:=by kernel_rfl
theorem c69{a l:List D}{r:D×List D}(h:Cu Y.env k69 (HZ Ak l.length [ResultVar.tmp 4] r) (entry a l))(ha:a.length=2):Y.call 69 a l=some r:=
 Ah (Y:=Y) rfl Tryd.func69 (ha▸ACo) wK h
def D5(numbers:List Int)(word1:ByteArray)(J8:Int)(s:St):Prop:=s.v 0=D.str word1∧s.v 7=D.sl 3 (AJ (D.int .i64) numbers)∧s.v 8=D.int .i64 (numbers.length:Int)∧s.v 9=D.int .i64 J8
def Dq(numbers:List Int)(r:ByteArray)(ex:Ex)(s:St):Prop:=ex= .exit 0∧s.v 0=D.str r
theorem O8(numbers:List Int){v:ByteArray×Int}{s:St}{r:ByteArray}(h:I5 numbers v=some r)(hM:D5 numbers v.1 v.2 s):Cu Y.env jB (Dq numbers r) s:=by
 unfold I5 at h
 refine DL (c:=VD) (fun v=>Dp numbers v.1 v.2) (fun v s=>D5 numbers v.1 v.2 s) (Dq numbers) ?_ h hM
 clear h hM s v r
 intro v s o hM h
 obtain⟨word1,J8⟩:=v
 dsimp only at h hM
 unfold Dp at h
 unfold D5 at hM
 obtain⟨m0,m1,m2,m3⟩:=hM
 unfold VD
 by_cases e1:J8<(numbers.length:Int)
 ·rw [if_pos e1]at h
  obtain⟨e2,h⟩:=Cf h
  by_cases e3:(numbers.getD J8.toNat default)=(-1)
  ·rw [if_pos e3]at h
   obtain⟨e4,h⟩:=Cf h
   obtain rfl:=Option.some.inj h
   simp (maxDischargeDepth:=9) only [↓AL,AB,AO,Ao,AC,AP,Ap,↓reduceIte,Nat.reduceEqDiff,Nat.reduceLT,Nat.reduceLeDiff,Nat.reduceAdd,Nat.reduceMul,Nat.reduceMod,Nat.reduceDiv,Nat.reducePow,Nat.reduceSub,Nat.reduceBEq,Int.reduceLE,Int.reduceLT,Int.reduceEq,Int.reduceSub,Int.reduceAdd,Int.reduceToNat,Int.reduceNeg,m0,m1,m2,m3,e1,e2.1,e2.2,decide_eq_true e3,e4,D5,Dq,De,Df,Dh]<;>(repeat' apply And.intro)<;>first|rfl|exact⟨_,rfl⟩|exact⟨_,_,rfl⟩|simp [AJ,A7]
  ·rw [if_neg e3]at h
   obtain⟨e4,h⟩:=Cf h
   have c5:=Zp (numbers.getD J8.toNat default) e4
   obtain⟨e6,h⟩:=Cf h
   obtain⟨e7,h⟩:=Cf h
   obtain rfl:=Option.some.inj h
   simp (maxDischargeDepth:=9) only [↓AL,AB,AO,Ao,AC,AP,Ap,↓reduceIte,Nat.reduceEqDiff,Nat.reduceLT,Nat.reduceLeDiff,Nat.reduceAdd,Nat.reduceMul,Nat.reduceMod,Nat.reduceDiv,Nat.reducePow,Nat.reduceSub,Nat.reduceBEq,Int.reduceLE,Int.reduceLT,Int.reduceEq,Int.reduceSub,Int.reduceAdd,Int.reduceToNat,Int.reduceNeg,m0,m1,m2,m3,e1,e2.1,e2.2,e3,e4.1,e4.2,c5,e6,e7,D5,Dq,De,Df,Dh]<;>(repeat' apply And.intro)<;>first|rfl|exact⟨_,rfl⟩|exact⟨_,_,rfl⟩|simp [AJ,A7]
 ·rw [if_neg e1]at h
  obtain rfl:=Option.some.inj h
  simp (maxDischargeDepth:=9) only [↓AL,AB,AO,Ao,AC,AP,Ap,↓reduceIte,Nat.reduceEqDiff,Nat.reduceLT,Nat.reduceLeDiff,Nat.reduceAdd,Nat.reduceMul,Nat.reduceMod,Nat.reduceDiv,Nat.reducePow,Nat.reduceSub,Nat.reduceBEq,Int.reduceLE,Int.reduceLT,Int.reduceEq,Int.reduceSub,Int.reduceAdd,Int.reduceToNat,Int.reduceNeg,m0,m1,m2,m3,e1,D5,Dq,De,Df,Dh]<;>(repeat' apply And.intro)<;>first|rfl|exact⟨_,rfl⟩|exact⟨_,_,rfl⟩|simp [AJ,A7]
theorem Ib(word:ByteArray)(numbers:List Int){r:ByteArray}(h:G7 word numbers=some r):Y.call 69 [D.str word,D.sl 3 (AJ (D.int .i64) numbers)] []=some (D.str r,[]):=by
 refine c69 ?_ rfl
 unfold k69
 unfold G7 at h
 obtain⟨AZ,hl2,h⟩:=BP h
 try dsimp only at h
 simp (maxDischargeDepth:=9) only [↓AL,AB,AO,Ao,AC,AP,Ap,↓reduceIte,Nat.reduceEqDiff,Nat.reduceLT,Nat.reduceLeDiff,Nat.reduceAdd,Nat.reduceMul,Nat.reduceMod,Nat.reduceDiv,Nat.reducePow,Nat.reduceSub,Nat.reduceBEq,Int.reduceLE,Int.reduceLT,Int.reduceEq,Int.reduceSub,Int.reduceAdd,Int.reduceToNat,Int.reduceNeg]
 refine C8 (O8 numbers hl2 ?_) ?_
 ·simp (maxDischargeDepth:=9) only [↓AL,AB,AO,Ao,AC,AP,Ap,↓reduceIte,Nat.reduceEqDiff,Nat.reduceLT,Nat.reduceLeDiff,Nat.reduceAdd,Nat.reduceMul,Nat.reduceMod,Nat.reduceDiv,Nat.reducePow,Nat.reduceSub,Nat.reduceBEq,Int.reduceLE,Int.reduceLT,Int.reduceEq,Int.reduceSub,Int.reduceAdd,Int.reduceToNat,Int.reduceNeg,D5]<;>(repeat' apply And.intro)<;>first|rfl|exact⟨_,rfl⟩|exact⟨_,_,rfl⟩|simp [AJ,A7]
 ·intro ex2 s2 hX2
  unfold Dq at hX2
  obtain⟨rfl,n2_0⟩:=hX2
  obtain rfl:=Option.some.inj h
  simp (maxDischargeDepth:=9) only [↓AL,AB,AO,Ao,AC,AP,Ap,↓reduceIte,Nat.reduceEqDiff,Nat.reduceLT,Nat.reduceLeDiff,Nat.reduceAdd,Nat.reduceMul,Nat.reduceMod,Nat.reduceDiv,Nat.reducePow,Nat.reduceSub,Nat.reduceBEq,Int.reduceLE,Int.reduceLT,Int.reduceEq,Int.reduceSub,Int.reduceAdd,Int.reduceToNat,Int.reduceNeg,n2_0]<;>(repeat' apply And.intro)<;>first|rfl|exact⟨_,rfl⟩|exact⟨_,_,rfl⟩|simp [AJ,A7]
noncomputable def D6(AR:Int)(AV:Int)(AY:List (List Int))(AQ:List (List Int))(lines:List ByteArray)(K5:Int):Option (((List ByteArray)×Int)⊕((List ByteArray))):=
 if K5<(AY.length:Int)then
  ck (0≤K5∧K5.toNat<AY.length)<|
  (G7 ({data:= #[110,111,100,101]}:ByteArray) (AY.getD K5.toNat default)).bind fun ZB=>
  ck (lines.length+1<1099511627776)<|
  some (Sum.inl ((lines++[ZB]),IntKind.i64.wrap (K5+1)))
 else
  some (Sum.inr lines)
noncomputable def Eu(AR:Int)(AV:Int)(AY:List (List Int))(AQ:List (List Int))(v:(List ByteArray)×Int):Option ((List ByteArray)):=Jk (fun v=>D6 AR AV AY AQ v.1 v.2) v
noncomputable def D7(AQ:List (List Int))(lines:List ByteArray)(K6:Int):Option (((List ByteArray)×Int)⊕((List ByteArray))):=
 if K6<(AQ.length:Int)then
  ck (0≤K6∧K6.toNat<AQ.length)<|
  (G7 ({data:= #[101,100,103,101]}:ByteArray) (AQ.getD K6.toNat default)).bind fun ZC=>
  ck (lines.length+1<1099511627776)<|
  some (Sum.inl ((lines++[ZC]),IntKind.i64.wrap (K6+1)))
 else
  some (Sum.inr lines)
noncomputable def Ev(AQ:List (List Int))(v:(List ByteArray)×Int):Option ((List ByteArray)):=Jk (fun v=>D7 AQ v.1 v.2) v
noncomputable def Gm(AR:Int)(AV:Int)(AY:List (List Int))(AQ:List (List Int)):Option (ByteArray):=
 (G7 ({data:= #[112,114,111,98,108,101,109]}:ByteArray) [AR,AV]).bind fun cu=>
 (Eu AR AV AY AQ ([cu],0)).bind fun AZ=>
 (Ev AQ (AZ,0)).bind fun Ia=>
 ck (Ia.length<1099511627776∧(Hw Ia ({data:= #[10]}:ByteArray)).size<1099511627776)<|
 ck ((Hw Ia ({data:= #[10]}:ByteArray)).size+({data:= #[10]}:ByteArray).size<1099511627776)<|
 some ((Hw Ia ({data:= #[10]}:ByteArray))++({data:= #[10]}:ByteArray))
def VE:SC:=
 .seq
 (.ops [
 ⟨(some 19),(.binOp .lss 3 (.tmp 18) (.tmp 17) 3),0,none⟩])
 (.seq
 (.cond (.tmp 19)
 .skip
 (.exit 0))
 (.seq
 (.block 1
 (.seq
 (.ops [
 ⟨(some 20),(.indexAddr 34 (.tmp 16) (.tmp 18)),0,none⟩,
 ⟨(some 21),(.load 70 (.tmp 20)),70,none⟩,
 ⟨(some 5),(.assign (.tmp 21)),70,none⟩])
 (.ops [
 ⟨(some 22),(.move (.tmp 3)),52,none⟩,
 ⟨(some 23),(.move (.tmp 5)),70,none⟩,
 ⟨(some 24),(.call ⟨(.value (.func 69)), #[(.const (.string {data:= #[110,111,100,101]})),(.tmp 23)], #[9,70]⟩),9,none⟩,
 ⟨(some 25),(.buildSlice 52 1 #[(0,(.tmp 24))]),52,none⟩,
 ⟨(some 26),(.call ⟨(.builtin .append), #[(.tmp 22),(.tmp 25)], #[52,52]⟩),52,none⟩,
 ⟨(some 3),(.assign (.tmp 26)),52,none⟩])))
 (.ops [
 ⟨(some 27),(.binOp .add 3 (.tmp 18) (.const (.int .i64 1)) 3),3,none⟩,
 ⟨(some 18),(.move (.tmp 27)),3,none⟩])))
def jC:SC:= .loop VE
def VF:SC:=
 .seq
 (.ops [
 ⟨(some 32),(.binOp .lss 3 (.tmp 31) (.tmp 30) 3),0,none⟩])
 (.seq
 (.cond (.tmp 32)
 .skip
 (.exit 2))
 (.seq
 (.block 3
 (.seq
 (.ops [
 ⟨(some 33),(.indexAddr 34 (.tmp 29) (.tmp 31)),0,none⟩,
 ⟨(some 34),(.load 70 (.tmp 33)),70,none⟩,
 ⟨(some 7),(.assign (.tmp 34)),70,none⟩])
 (.ops [
 ⟨(some 35),(.move (.tmp 3)),52,none⟩,
 ⟨(some 36),(.move (.tmp 7)),70,none⟩,
 ⟨(some 37),(.call ⟨(.value (.func 69)), #[(.const (.string {data:= #[101,100,103,101]})),(.tmp 36)], #[9,70]⟩),9,none⟩,
 ⟨(some 38),(.buildSlice 52 1 #[(0,(.tmp 37))]),52,none⟩,
 ⟨(some 39),(.call ⟨(.builtin .append), #[(.tmp 35),(.tmp 38)], #[52,52]⟩),52,none⟩,
 ⟨(some 3),(.assign (.tmp 39)),52,none⟩])))
 (.ops [
 ⟨(some 40),(.binOp .add 3 (.tmp 31) (.const (.int .i64 1)) 3),3,none⟩,
 ⟨(some 31),(.move (.tmp 40)),3,none⟩])))
def jD:SC:= .loop VF
def k44:SC:=
 .seq
 (.ops [
 ⟨(some 1),(.box 39 (.tmp 0)),0,none⟩,
 ⟨(some 2),(.assign (.const (.string {data:= #[]}))),9,none⟩])
 (.seq
 (.ops [
 ⟨(some 8),(.fieldAddr 39 (.tmp 1) 0),0,none⟩,
 ⟨(some 9),(.load 3 (.tmp 8)),3,none⟩,
 ⟨(some 10),(.fieldAddr 39 (.tmp 1) 1),0,none⟩,
 ⟨(some 11),(.load 3 (.tmp 10)),3,none⟩,
 ⟨(some 12),(.buildSlice 70 2 #[(0,(.tmp 9)),(1,(.tmp 11))]),70,none⟩,
 ⟨(some 13),(.call ⟨(.value (.func 69)), #[(.const (.string {data:= #[112,114,111,98,108,101,109]})),(.tmp 12)], #[9,70]⟩),9,none⟩,
 ⟨(some 14),(.buildSlice 52 1 #[(0,(.tmp 13))]),52,none⟩,
 ⟨(some 3),(.assign (.tmp 14)),52,none⟩])
 (.seq
 (.seq
 (.ops [
 ⟨(some 15),(.fieldAddr 39 (.tmp 1) 2),0,none⟩,
 ⟨(some 16),(.load 34 (.tmp 15)),34,none⟩,
 ⟨(some 17),(.call ⟨(.builtin .len), #[(.tmp 16)], #[34]⟩),3,none⟩,
 ⟨(some 18),(.move (.const (.int .i64 0))),3,none⟩])
 (.block 0
 jC))
 (.seq
 (.seq
 (.ops [
 ⟨(some 28),(.fieldAddr 39 (.tmp 1) 3),0,none⟩,
 ⟨(some 29),(.load 34 (.tmp 28)),34,none⟩,
 ⟨(some 30),(.call ⟨(.builtin .len), #[(.tmp 29)], #[34]⟩),3,none⟩,
 ⟨(some 31),(.move (.const (.int .i64 0))),3,none⟩])
 (.block 2
 jD))
 (.seq
 (.ops [
 ⟨(some 41),(.move (.tmp 3)),52,none⟩,
 ⟨(some 42),(.call ⟨(.value (.func 31)), #[(.tmp 41),(.const (.string {data:= #[10]}))], #[52,9]⟩),9,none⟩,
 ⟨(some 43),(.binOp .add 9 (.tmp 42) (.const (.string {data:= #[10]})) 9),9,none⟩,
 ⟨(some 2),(.assign (.tmp 43)),9,none⟩])
 .ret))))
theorem wL:Tryd.f44.body.map (CY lends)=some k44:=by kernel_rfl
theorem ACq:DR Tryd.f44 1=true:=by kernel_rfl
theorem c44{a l:List D}{r:D×List D}(h:Cu Y.env k44 (HZ Ak l.length [ResultVar.tmp 2] r) (entry a l))(ha:a.length=1):Y.call 44 a l=some r:=
 Ah (Y:=Y) rfl Tryd.func44 (ha▸ACq) wL h
def D8(AR:Int)(AV:Int)(AY:List (List Int))(AQ:List (List Int))(lines:List ByteArray)(K5:Int)(s:St):Prop:=s.v 1=D.box [D.int .i64 AR,D.int .i64 AV,D.sl 70 (AJ (fun x=>D.sl 3 (AJ (D.int .i64) x)) AY),D.sl 70 (AJ (fun x=>D.sl 3 (AJ (D.int .i64) x)) AQ)]∧s.v 3=D.own 9 (AJ D.str lines)∧s.v 16=D.sl 70 (AJ (fun x=>D.sl 3 (AJ (D.int .i64) x)) AY)∧s.v 17=D.int .i64 (AY.length:Int)∧s.v 18=D.int .i64 K5
def EA(AR:Int)(AV:Int)(AY:List (List Int))(AQ:List (List Int))(r:(List ByteArray))(ex:Ex)(s:St):Prop:=ex= .exit 0∧s.v 1=D.box [D.int .i64 AR,D.int .i64 AV,D.sl 70 (AJ (fun x=>D.sl 3 (AJ (D.int .i64) x)) AY),D.sl 70 (AJ (fun x=>D.sl 3 (AJ (D.int .i64) x)) AQ)]∧s.v 3=D.own 9 (AJ D.str r)
theorem MW(AR:Int)(AV:Int)(AY:List (List Int))(AQ:List (List Int)){v:(List ByteArray)×Int}{s:St}{r:(List ByteArray)}(h:Eu AR AV AY AQ v=some r)(hM:D8 AR AV AY AQ v.1 v.2 s):Cu Y.env jC (EA AR AV AY AQ r) s:=by
 unfold Eu at h
 refine DL (c:=VE) (fun v=>D6 AR AV AY AQ v.1 v.2) (fun v s=>D8 AR AV AY AQ v.1 v.2 s) (EA AR AV AY AQ) ?_ h hM
 clear h hM s v r
 intro v s o hM h
 obtain⟨lines,K5⟩:=v
 dsimp only at h hM
 unfold D6 at h
 unfold D8 at hM
 obtain⟨m0,m1,m2,m3,m4⟩:=hM
 unfold VE
 by_cases e2:K5<(AY.length:Int)
 ·rw [if_pos e2]at h
  obtain⟨e3,h⟩:=Cf h
  obtain⟨ZB,hl4,h⟩:=BP h
  try dsimp only at h
  have c4:=Ib ({data:= #[110,111,100,101]}:ByteArray) (AY.getD K5.toNat default) hl4
  obtain⟨e5,h⟩:=Cf h
  obtain rfl:=Option.some.inj h
  simp (maxDischargeDepth:=9) only [↓AL,AB,AO,Ao,AC,AP,Ap,↓reduceIte,Nat.reduceEqDiff,Nat.reduceLT,Nat.reduceLeDiff,Nat.reduceAdd,Nat.reduceMul,Nat.reduceMod,Nat.reduceDiv,Nat.reducePow,Nat.reduceSub,Nat.reduceBEq,Int.reduceLE,Int.reduceLT,Int.reduceEq,Int.reduceSub,Int.reduceAdd,Int.reduceToNat,Int.reduceNeg,m0,m1,m2,m3,m4,e2,e3.1,e3.2,c4,e5,D8,EA,De,Df,Dh]<;>(repeat' apply And.intro)<;>first|rfl|exact⟨_,rfl⟩|exact⟨_,_,rfl⟩|simp [AJ,A7]
 ·rw [if_neg e2]at h
  obtain rfl:=Option.some.inj h
  simp (maxDischargeDepth:=9) only [↓AL,AB,AO,Ao,AC,AP,Ap,↓reduceIte,Nat.reduceEqDiff,Nat.reduceLT,Nat.reduceLeDiff,Nat.reduceAdd,Nat.reduceMul,Nat.reduceMod,Nat.reduceDiv,Nat.reducePow,Nat.reduceSub,Nat.reduceBEq,Int.reduceLE,Int.reduceLT,Int.reduceEq,Int.reduceSub,Int.reduceAdd,Int.reduceToNat,Int.reduceNeg,m0,m1,m2,m3,m4,e2,D8,EA,De,Df,Dh]<;>(repeat' apply And.intro)<;>first|rfl|exact⟨_,rfl⟩|exact⟨_,_,rfl⟩|simp [AJ,A7]
def D9(AQ:List (List Int))(lines:List ByteArray)(K6:Int)(s:St):Prop:=s.v 3=D.own 9 (AJ D.str lines)∧s.v 29=D.sl 70 (AJ (fun x=>D.sl 3 (AJ (D.int .i64) x)) AQ)∧s.v 30=D.int .i64 (AQ.length:Int)∧s.v 31=D.int .i64 K6
def EB(AQ:List (List Int))(r:(List ByteArray))(ex:Ex)(s:St):Prop:=ex= .exit 2∧s.v 3=D.own 9 (AJ D.str r)
theorem MX(AQ:List (List Int)){v:(List ByteArray)×Int}{s:St}{r:(List ByteArray)}(h:Ev AQ v=some r)(hM:D9 AQ v.1 v.2 s):Cu Y.env jD (EB AQ r) s:=by
 unfold Ev at h
 refine DL (c:=VF) (fun v=>D7 AQ v.1 v.2) (fun v s=>D9 AQ v.1 v.2 s) (EB AQ) ?_ h hM
 clear h hM s v r
 intro v s o hM h
 obtain⟨lines,K6⟩:=v
 dsimp only at h hM
 unfold D7 at h
 unfold D9 at hM
 obtain⟨m0,m1,m2,m3⟩:=hM
 unfold VF
 by_cases e4:K6<(AQ.length:Int)
 ·rw [if_pos e4]at h
  obtain⟨e5,h⟩:=Cf h
  obtain⟨ZC,hl6,h⟩:=BP h
  try dsimp only at h
  have c6:=Ib ({data:= #[101,100,103,101]}:ByteArray) (AQ.getD K6.toNat default) hl6
  obtain⟨e7,h⟩:=Cf h
  obtain rfl:=Option.some.inj h
  simp (maxDischargeDepth:=9) only [↓AL,AB,AO,Ao,AC,AP,Ap,↓reduceIte,Nat.reduceEqDiff,Nat.reduceLT,Nat.reduceLeDiff,Nat.reduceAdd,Nat.reduceMul,Nat.reduceMod,Nat.reduceDiv,Nat.reducePow,Nat.reduceSub,Nat.reduceBEq,Int.reduceLE,Int.reduceLT,Int.reduceEq,Int.reduceSub,Int.reduceAdd,Int.reduceToNat,Int.reduceNeg,m0,m1,m2,m3,e4,e5.1,e5.2,c6,e7,D9,EB,De,Df,Dh]<;>(repeat' apply And.intro)<;>first|rfl|exact⟨_,rfl⟩|exact⟨_,_,rfl⟩|simp [AJ,A7]
 ·rw [if_neg e4]at h
  obtain rfl:=Option.some.inj h
  simp (maxDischargeDepth:=9) only [↓AL,AB,AO,Ao,AC,AP,Ap,↓reduceIte,Nat.reduceEqDiff,Nat.reduceLT,Nat.reduceLeDiff,Nat.reduceAdd,Nat.reduceMul,Nat.reduceMod,Nat.reduceDiv,Nat.reducePow,Nat.reduceSub,Nat.reduceBEq,Int.reduceLE,Int.reduceLT,Int.reduceEq,Int.reduceSub,Int.reduceAdd,Int.reduceToNat,Int.reduceNeg,m0,m1,m2,m3,e4,D9,EB,De,Df,Dh]<;>(repeat' apply And.intro)<;>first|rfl|exact⟨_,rfl⟩|exact⟨_,_,rfl⟩|simp [AJ,A7]
theorem NE(AR:Int)(AV:Int)(AY:List (List Int))(AQ:List (List Int)){r:ByteArray}(h:Gm AR AV AY AQ=some r):Y.call 44 [D.agg [D.int .i64 AR,D.int .i64 AV,D.sl 70 (AJ (fun x=>D.sl 3 (AJ (D.int .i64) x)) AY),D.sl 70 (AJ (fun x=>D.sl 3 (AJ (D.int .i64) x)) AQ)]] []=some (D.str r,[]):=by
 refine c44 ?_ rfl
 unfold k44
 unfold Gm at h
 obtain⟨cu,hl1,h⟩:=BP h
 try dsimp only at h
 have c1:=Ib ({data:= #[112,114,111,98,108,101,109]}:ByteArray) [AR,AV] hl1
 simp only [Fz,Zl,Gf,MI,List.append_nil,List.cons_append,List.nil_append]at c1
 obtain⟨AZ,hl3,h⟩:=BP h
 try dsimp only at h
 simp (maxDischargeDepth:=9) only [↓AL,AB,AO,Ao,AC,AP,Ap,↓reduceIte,Nat.reduceEqDiff,Nat.reduceLT,Nat.reduceLeDiff,Nat.reduceAdd,Nat.reduceMul,Nat.reduceMod,Nat.reduceDiv,Nat.reducePow,Nat.reduceSub,Nat.reduceBEq,Int.reduceLE,Int.reduceLT,Int.reduceEq,Int.reduceSub,Int.reduceAdd,Int.reduceToNat,Int.reduceNeg,c1]
 refine C8 (MW AR AV AY AQ hl3 ?_) ?_
 ·simp (maxDischargeDepth:=9) only [↓AL,AB,AO,Ao,AC,AP,Ap,↓reduceIte,Nat.reduceEqDiff,Nat.reduceLT,Nat.reduceLeDiff,Nat.reduceAdd,Nat.reduceMul,Nat.reduceMod,Nat.reduceDiv,Nat.reducePow,Nat.reduceSub,Nat.reduceBEq,Int.reduceLE,Int.reduceLT,Int.reduceEq,Int.reduceSub,Int.reduceAdd,Int.reduceToNat,Int.reduceNeg,c1,D8]<;>(repeat' apply And.intro)<;>first|rfl|exact⟨_,rfl⟩|exact⟨_,_,rfl⟩|simp [AJ,A7]
 ·intro ex3 s3 hX3
  unfold EA at hX3
  obtain⟨rfl,n3_0,n3_1⟩:=hX3
  obtain⟨Ia,hl5,h⟩:=BP h
  try dsimp only at h
  simp (maxDischargeDepth:=9) only [↓AL,AB,AO,Ao,AC,AP,Ap,↓reduceIte,Nat.reduceEqDiff,Nat.reduceLT,Nat.reduceLeDiff,Nat.reduceAdd,Nat.reduceMul,Nat.reduceMod,Nat.reduceDiv,Nat.reducePow,Nat.reduceSub,Nat.reduceBEq,Int.reduceLE,Int.reduceLT,Int.reduceEq,Int.reduceSub,Int.reduceAdd,Int.reduceToNat,Int.reduceNeg,c1,n3_0,n3_1]
  refine C8 (MX AQ hl5 ?_) ?_
  ·simp (maxDischargeDepth:=9) only [↓AL,AB,AO,Ao,AC,AP,Ap,↓reduceIte,Nat.reduceEqDiff,Nat.reduceLT,Nat.reduceLeDiff,Nat.reduceAdd,Nat.reduceMul,Nat.reduceMod,Nat.reduceDiv,Nat.reducePow,Nat.reduceSub,Nat.reduceBEq,Int.reduceLE,Int.reduceLT,Int.reduceEq,Int.reduceSub,Int.reduceAdd,Int.reduceToNat,Int.reduceNeg,c1,n3_0,n3_1,D9]<;>(repeat' apply And.intro)<;>first|rfl|exact⟨_,rfl⟩|exact⟨_,_,rfl⟩|simp [AJ,A7]
  ·intro ex5 s5 hX5
   unfold EB at hX5
   obtain⟨rfl,n5_0⟩:=hX5
   obtain⟨e6,h⟩:=Cf h
   have c7:=lV Ia ({data:= #[10]}:ByteArray) e6
   obtain⟨e8,h⟩:=Cf h
   obtain rfl:=Option.some.inj h
   simp (maxDischargeDepth:=9) only [↓AL,AB,AO,Ao,AC,AP,Ap,↓reduceIte,Nat.reduceEqDiff,Nat.reduceLT,Nat.reduceLeDiff,Nat.reduceAdd,Nat.reduceMul,Nat.reduceMod,Nat.reduceDiv,Nat.reducePow,Nat.reduceSub,Nat.reduceBEq,Int.reduceLE,Int.reduceLT,Int.reduceEq,Int.reduceSub,Int.reduceAdd,Int.reduceToNat,Int.reduceNeg,c1,n5_0,e6.1,e6.2,c7,e8]<;>(repeat' apply And.intro)<;>first|rfl|exact⟨_,rfl⟩|exact⟨_,_,rfl⟩|simp [AJ,A7]
noncomputable def KW(rec_:Int→Option ByteArray)(n_:Int):Option (ByteArray):=
 if n_<10 then
  some (Ve (IntKind.u8.wrap (IntKind.i64.wrap (48+n_))))
 else
  (rec_ (IntKind.i64.wrap (n_.tdiv 10))).bind fun Fh=>
  ck (Fh.size+(Ve (IntKind.u8.wrap (IntKind.i64.wrap (48+(n_.tmod 10))))).size<1099511627776)<|
  some (Fh++(Ve (IntKind.u8.wrap (IntKind.i64.wrap (48+(n_.tmod 10))))))
noncomputable def HV:Nat→Int→Option ByteArray
 |0=>fun _=>none
 |n+1=>fun n_=>KW (HV n) n_
noncomputable def VH(n_:Int):Option (ByteArray):=HV 1000000 n_
def k53:SC:=
 .seq
 (.ops [
 ⟨(some 2),(.assign (.const (.string {data:= #[]}))),9,none⟩])
 (.seq
 (.seq
 (.ops [
 ⟨(some 3),(.move (.tmp 0)),3,none⟩,
 ⟨(some 4),(.binOp .lss 3 (.tmp 3) (.const (.int .i64 10)) 3),4,none⟩])
 (.cond (.tmp 4)
 (.seq
 (.ops [
 ⟨(some 5),(.move (.tmp 0)),3,none⟩,
 ⟨(some 6),(.binOp .add 3 (.const (.int .i64 48)) (.tmp 5) 3),3,none⟩,
 ⟨(some 7),(.convert 3 5 (.tmp 6)),5,none⟩,
 ⟨(some 8),(.buildSlice 79 1 #[(0,(.tmp 7))]),79,none⟩,
 ⟨(some 9),(.convert 79 9 (.tmp 8)),9,none⟩,
 ⟨(some 2),(.assign (.tmp 9)),9,none⟩])
 .ret)
 .skip))
 (.seq
 (.draws [
 (⟨[10,0,0],[10,11,12,13,14,15,16,17,16,16,18,19,2,19,19],[10]⟩,⟨(some 10),(.move (.tmp 0)),3,none⟩),
 (⟨[11,10,0],[10,11,12,13,14,15,16,17,16,16,18,19,2,19,19],[11]⟩,⟨(some 11),(.binOp .quo 3 (.tmp 10) (.const (.int .i64 10)) 3),3,none⟩),
 (⟨[12,11,11],[10,11,12,13,14,15,16,17,16,16,18,19,2,19,19],[12]⟩,⟨(some 12),(.call ⟨(.value (.func 53)), #[(.tmp 11)], #[3]⟩),9,none⟩),
 (⟨[13,0,0],[10,11,12,13,14,15,16,17,16,16,18,19,2,19,19],[13]⟩,⟨(some 13),(.move (.tmp 0)),3,none⟩),
 (⟨[14,13,0],[10,11,12,13,14,15,16,17,16,16,18,19,2,19,19],[14]⟩,⟨(some 14),(.binOp .rem 3 (.tmp 13) (.const (.int .i64 10)) 3),3,none⟩),
 (⟨[15,14,14],[10,11,12,13,14,15,16,17,16,16,18,19,2,19,19],[15]⟩,⟨(some 15),(.binOp .add 3 (.const (.int .i64 48)) (.tmp 14) 3),3,none⟩),
 (⟨[16,15,15],[10,11,12,13,14,15,16,17,16,16,18,19,2,19,19],[16]⟩,⟨(some 16),(.convert 3 5 (.tmp 15)),5,none⟩),
 (⟨[17,16,16],[10,11,12,13,14,15,16,17,16,16,18,19,2,19,19],[17,16,16]⟩,⟨(some 17),(.buildSlice 79 1 #[(0,(.tmp 16))]),79,none⟩),
 (⟨[18,17,17],[10,11,12,13,14,15,16,17,16,16,18,19,2,19,19],[18]⟩,⟨(some 18),(.convert 79 9 (.tmp 17)),9,none⟩),
 (⟨[19,12,18,12,18],[10,11,12,13,14,15,16,17,16,16,18,19,2,19,19],[19]⟩,⟨(some 19),(.binOp .add 9 (.tmp 12) (.tmp 18) 9),9,none⟩),
 (⟨[2,19,19],[10,11,12,13,14,15,16,17,16,16,18,19,2,19,19],[2,19,19]⟩,⟨(some 2),(.assign (.tmp 19)),9,none⟩)])
 .ret))
theorem wM:Tryd.f53.body.map (CY lends)=some k53:=by kernel_rfl
theorem ACs:DR Tryd.f53 1=true:=by kernel_rfl
theorem c53{a l:List D}{r:D×List D}(h:Cu Y.env k53 (HZ Ak l.length [ResultVar.tmp 2] r) (entry a l))(ha:a.length=1):Y.call 53 a l=some r:=
 Ah (Y:=Y) rfl Tryd.func53 (ha▸ACs) wM h
theorem RX(rec_:Int→Option ByteArray)(n_:Int)(rec_h: ∀(n_:Int) (r:ByteArray),rec_ n_=some r→Y.call 53 [D.int .i64 n_] []=some (D.str r,[])){r:ByteArray}(h:KW rec_ n_=some r):Y.call 53 [D.int .i64 n_] []=some (D.str r,[]):=by
 refine c53 ?_ rfl
 unfold k53
 unfold KW at h
 by_cases e1:n_<10
 ·rw [if_pos e1]at h
  obtain rfl:=Option.some.inj h
  simp (maxDischargeDepth:=9) only [↓AL,AB,AO,Ao,AC,AP,Ap,↓reduceIte,Nat.reduceEqDiff,Nat.reduceLT,Nat.reduceLeDiff,Nat.reduceAdd,Nat.reduceMul,Nat.reduceMod,Nat.reduceDiv,Nat.reducePow,Nat.reduceSub,Nat.reduceBEq,Int.reduceLE,Int.reduceLT,Int.reduceEq,Int.reduceSub,Int.reduceAdd,Int.reduceToNat,Int.reduceNeg,e1]<;>(repeat' apply And.intro)<;>first|rfl|exact⟨_,rfl⟩|exact⟨_,_,rfl⟩|simp [AJ,A7]
 ·rw [if_neg e1]at h
  obtain⟨Fh,hl2,h⟩:=BP h
  try dsimp only at h
  have c2:=rec_h _ _ hl2
  obtain⟨e3,h⟩:=Cf h
  obtain rfl:=Option.some.inj h
  simp (maxDischargeDepth:=9) only [↓AL,AB,AO,Ao,AC,AP,Ap,↓reduceIte,Nat.reduceEqDiff,Nat.reduceLT,Nat.reduceLeDiff,Nat.reduceAdd,Nat.reduceMul,Nat.reduceMod,Nat.reduceDiv,Nat.reducePow,Nat.reduceSub,Nat.reduceBEq,Int.reduceLE,Int.reduceLT,Int.reduceEq,Int.reduceSub,Int.reduceAdd,Int.reduceToNat,Int.reduceNeg,e1,c2,e3]<;>(repeat' apply And.intro)<;>first|rfl|exact⟨_,rfl⟩|exact⟨_,_,rfl⟩|simp [AJ,A7]
theorem RY(n:Nat): ∀(n_:Int) (r:ByteArray),HV n n_=some r→Y.call 53 [D.int .i64 n_] []=some (D.str r,[]):=by
 induction n with
 |zero=>intro n_ r h;exact absurd h (by rw [HV];exact fun e=>by cases e)
 |succ n ih=>intro n_ r h;rw [HV]at h;exact RX (HV n) n_ ih h
theorem VI(n_:Int){r:ByteArray}(h:VH n_=some r):Y.call 53 [D.int .i64 n_] []=some (D.str r,[]):=RY 1000000 n_ r h
noncomputable def FW(l:List Int)(word1:ByteArray)(J8:Int):Option ((ByteArray×Int)⊕(ByteArray)):=
 if J8<(l.length:Int)then
  ck (0≤J8∧J8.toNat<l.length)<|
  if(l.getD J8.toNat default)<0 then
   ck (word1.size+({data:= #[32,42]}:ByteArray).size<1099511627776)<|
   some (Sum.inl ((word1++({data:= #[32,42]}:ByteArray)),IntKind.i64.wrap (J8+1)))
  else
   (VH (l.getD J8.toNat default)).bind fun lu=>
   ck (({data:= #[32]}:ByteArray).size+lu.size<1099511627776)<|
   ck (word1.size+(({data:= #[32]}:ByteArray)++lu).size<1099511627776)<|
   some (Sum.inl ((word1++(({data:= #[32]}:ByteArray)++lu)),IntKind.i64.wrap (J8+1)))
 else
  some (Sum.inr word1)
noncomputable def Jt(l:List Int)(v:ByteArray×Int):Option (ByteArray):=Jk (fun v=>FW l v.1 v.2) v
noncomputable def Jc(word:ByteArray)(l:List Int):Option (ByteArray):=
 (Jt l (word,0)).bind fun AZ=>
 some AZ
def VJ:SC:=
 .seq
 (.ops [
 ⟨(some 10),(.binOp .lss 3 (.tmp 9) (.tmp 8) 3),0,none⟩])
 (.seq
 (.cond (.tmp 10)
 .skip
 (.exit 0))
 (.seq
 (.block 1
 (.seq
 (.ops [
 ⟨(some 11),(.indexAddr 70 (.tmp 7) (.tmp 9)),0,none⟩,
 ⟨(some 12),(.load 3 (.tmp 11)),3,none⟩,
 ⟨(some 6),(.assign (.tmp 12)),3,none⟩])
 (.seq
 (.ops [
 ⟨(some 13),(.move (.tmp 6)),3,none⟩,
 ⟨(some 14),(.binOp .lss 3 (.tmp 13) (.const (.int .i64 0)) 3),4,none⟩])
 (.cond (.tmp 14)
 (.ops [
 ⟨(some 15),(.move (.tmp 0)),9,none⟩,
 ⟨(some 16),(.binOp .add 9 (.tmp 15) (.const (.string {data:= #[32,42]})) 9),9,none⟩,
 ⟨(some 0),(.assign (.tmp 16)),9,none⟩])
 (.ops [
 ⟨(some 17),(.move (.tmp 0)),9,none⟩,
 ⟨(some 18),(.move (.tmp 6)),3,none⟩,
 ⟨(some 19),(.call ⟨(.value (.func 53)), #[(.tmp 18)], #[3]⟩),9,none⟩,
 ⟨(some 20),(.binOp .add 9 (.const (.string {data:= #[32]})) (.tmp 19) 9),9,none⟩,
 ⟨(some 21),(.binOp .add 9 (.tmp 17) (.tmp 20) 9),9,none⟩,
 ⟨(some 0),(.assign (.tmp 21)),9,none⟩])))))
 (.ops [
 ⟨(some 22),(.binOp .add 3 (.tmp 9) (.const (.int .i64 1)) 3),3,none⟩,
 ⟨(some 9),(.move (.tmp 22)),3,none⟩])))
def jE:SC:= .loop VJ
def k66:SC:=
 .seq
 (.ops [
 ⟨(some 4),(.assign (.const (.string {data:= #[]}))),9,none⟩])
 (.seq
 (.seq
 (.ops [
 ⟨(some 7),(.move (.tmp 1)),70,none⟩,
 ⟨(some 8),(.call ⟨(.builtin .len), #[(.tmp 7)], #[70]⟩),3,none⟩,
 ⟨(some 9),(.move (.const (.int .i64 0))),3,none⟩])
 (.block 0
 jE))
 (.seq
 (.ops [
 ⟨(some 23),(.move (.tmp 0)),9,none⟩,
 ⟨(some 4),(.assign (.tmp 23)),9,none⟩])
 .ret))
theorem wN:Tryd.f66.body.map (CY lends)=some k66:=by kernel_rfl
theorem ACu:DR Tryd.f66 2=true:=by kernel_rfl
theorem c66{a l:List D}{r:D×List D}(h:Cu Y.env k66 (HZ Ak l.length [ResultVar.tmp 4] r) (entry a l))(ha:a.length=2):Y.call 66 a l=some r:=
 Ah (Y:=Y) rfl Tryd.func66 (ha▸ACu) wN h
def EZ(l:List Int)(word1:ByteArray)(J8:Int)(s:St):Prop:=s.v 0=D.str word1∧s.v 7=D.sl 3 (AJ (D.int .i64) l)∧s.v 8=D.int .i64 (l.length:Int)∧s.v 9=D.int .i64 J8
def FX(l:List Int)(r:ByteArray)(ex:Ex)(s:St):Prop:=ex= .exit 0∧s.v 0=D.str r
theorem RZ(l:List Int){v:ByteArray×Int}{s:St}{r:ByteArray}(h:Jt l v=some r)(hM:EZ l v.1 v.2 s):Cu Y.env jE (FX l r) s:=by
 unfold Jt at h
 refine DL (c:=VJ) (fun v=>FW l v.1 v.2) (fun v s=>EZ l v.1 v.2 s) (FX l) ?_ h hM
 clear h hM s v r
 intro v s o hM h
 obtain⟨word1,J8⟩:=v
 dsimp only at h hM
 unfold FW at h
 unfold EZ at hM
 obtain⟨m0,m1,m2,m3⟩:=hM
 unfold VJ
 by_cases e1:J8<(l.length:Int)
 ·rw [if_pos e1]at h
  obtain⟨e2,h⟩:=Cf h
  by_cases e3:(l.getD J8.toNat default)<0
  ·rw [if_pos e3]at h
   obtain⟨e4,h⟩:=Cf h
   obtain rfl:=Option.some.inj h
   simp (maxDischargeDepth:=9) only [↓AL,AB,AO,Ao,AC,AP,Ap,↓reduceIte,Nat.reduceEqDiff,Nat.reduceLT,Nat.reduceLeDiff,Nat.reduceAdd,Nat.reduceMul,Nat.reduceMod,Nat.reduceDiv,Nat.reducePow,Nat.reduceSub,Nat.reduceBEq,Int.reduceLE,Int.reduceLT,Int.reduceEq,Int.reduceSub,Int.reduceAdd,Int.reduceToNat,Int.reduceNeg,m0,m1,m2,m3,e1,e2.1,e2.2,e3,e4,EZ,FX,De,Df,Dh]<;>(repeat' apply And.intro)<;>first|rfl|exact⟨_,rfl⟩|exact⟨_,_,rfl⟩|simp [AJ,A7]
  ·rw [if_neg e3]at h
   obtain⟨lu,hl4,h⟩:=BP h
   try dsimp only at h
   have c4:=VI (l.getD J8.toNat default) hl4
   obtain⟨e5,h⟩:=Cf h
   obtain⟨e6,h⟩:=Cf h
   obtain rfl:=Option.some.inj h
   simp (maxDischargeDepth:=9) only [↓AL,AB,AO,Ao,AC,AP,Ap,↓reduceIte,Nat.reduceEqDiff,Nat.reduceLT,Nat.reduceLeDiff,Nat.reduceAdd,Nat.reduceMul,Nat.reduceMod,Nat.reduceDiv,Nat.reducePow,Nat.reduceSub,Nat.reduceBEq,Int.reduceLE,Int.reduceLT,Int.reduceEq,Int.reduceSub,Int.reduceAdd,Int.reduceToNat,Int.reduceNeg,m0,m1,m2,m3,e1,e2.1,e2.2,e3,c4,e5,e6,EZ,FX,De,Df,Dh]<;>(repeat' apply And.intro)<;>first|rfl|exact⟨_,rfl⟩|exact⟨_,_,rfl⟩|simp [AJ,A7]
 ·rw [if_neg e1]at h
  obtain rfl:=Option.some.inj h
  simp (maxDischargeDepth:=9) only [↓AL,AB,AO,Ao,AC,AP,Ap,↓reduceIte,Nat.reduceEqDiff,Nat.reduceLT,Nat.reduceLeDiff,Nat.reduceAdd,Nat.reduceMul,Nat.reduceMod,Nat.reduceDiv,Nat.reducePow,Nat.reduceSub,Nat.reduceBEq,Int.reduceLE,Int.reduceLT,Int.reduceEq,Int.reduceSub,Int.reduceAdd,Int.reduceToNat,Int.reduceNeg,m0,m1,m2,m3,e1,EZ,FX,De,Df,Dh]<;>(repeat' apply And.intro)<;>first|rfl|exact⟨_,rfl⟩|exact⟨_,_,rfl⟩|simp [AJ,A7]
theorem K7(word:ByteArray)(l:List Int){r:ByteArray}(h:Jc word l=some r):Y.call 66 [D.str word,D.sl 3 (AJ (D.int .i64) l)] []=some (D.str r,[]):=by
 refine c66 ?_ rfl
 unfold k66
 unfold Jc at h
 obtain⟨AZ,hl2,h⟩:=BP h
 try dsimp only at h
 simp (maxDischargeDepth:=9) only [↓AL,AB,AO,Ao,AC,AP,Ap,↓reduceIte,Nat.reduceEqDiff,Nat.reduceLT,Nat.reduceLeDiff,Nat.reduceAdd,Nat.reduceMul,Nat.reduceMod,Nat.reduceDiv,Nat.reducePow,Nat.reduceSub,Nat.reduceBEq,Int.reduceLE,Int.reduceLT,Int.reduceEq,Int.reduceSub,Int.reduceAdd,Int.reduceToNat,Int.reduceNeg]
 refine C8 (RZ l hl2 ?_) ?_
 ·simp (maxDischargeDepth:=9) only [↓AL,AB,AO,Ao,AC,AP,Ap,↓reduceIte,Nat.reduceEqDiff,Nat.reduceLT,Nat.reduceLeDiff,Nat.reduceAdd,Nat.reduceMul,Nat.reduceMod,Nat.reduceDiv,Nat.reducePow,Nat.reduceSub,Nat.reduceBEq,Int.reduceLE,Int.reduceLT,Int.reduceEq,Int.reduceSub,Int.reduceAdd,Int.reduceToNat,Int.reduceNeg,EZ]<;>(repeat' apply And.intro)<;>first|rfl|exact⟨_,rfl⟩|exact⟨_,_,rfl⟩|simp [AJ,A7]
 ·intro ex2 s2 hX2
  unfold FX at hX2
  obtain⟨rfl,n2_0⟩:=hX2
  obtain rfl:=Option.some.inj h
  simp (maxDischargeDepth:=9) only [↓AL,AB,AO,Ao,AC,AP,Ap,↓reduceIte,Nat.reduceEqDiff,Nat.reduceLT,Nat.reduceLeDiff,Nat.reduceAdd,Nat.reduceMul,Nat.reduceMod,Nat.reduceDiv,Nat.reducePow,Nat.reduceSub,Nat.reduceBEq,Int.reduceLE,Int.reduceLT,Int.reduceEq,Int.reduceSub,Int.reduceAdd,Int.reduceToNat,Int.reduceNeg,n2_0]<;>(repeat' apply And.intro)<;>first|rfl|exact⟨_,rfl⟩|exact⟨_,_,rfl⟩|simp [AJ,A7]
noncomputable def FY(AR:Int)(AV:Int)(AY:List (List Int))(AQ:List (List Int))(out:ByteArray)(K5:Int):Option ((ByteArray×Int)⊕(ByteArray)):=
 if K5<(AY.length:Int)then
  ck (0≤K5∧K5.toNat<AY.length)<|
  (Jc ({data:= #[110,111,100,101]}:ByteArray) (AY.getD K5.toNat default)).bind fun ZB=>
  ck (ZB.size+({data:= #[10]}:ByteArray).size<1099511627776)<|
  ck (out.size+(ZB++({data:= #[10]}:ByteArray)).size<1099511627776)<|
  some (Sum.inl ((out++(ZB++({data:= #[10]}:ByteArray))),IntKind.i64.wrap (K5+1)))
 else
  some (Sum.inr out)
noncomputable def Iu(AR:Int)(AV:Int)(AY:List (List Int))(AQ:List (List Int))(v:ByteArray×Int):Option (ByteArray):=Jk (fun v=>FY AR AV AY AQ v.1 v.2) v
noncomputable def FZ(AQ:List (List Int))(out:ByteArray)(K6:Int):Option ((ByteArray×Int)⊕(ByteArray)):=
 if K6<(AQ.length:Int)then
  ck (0≤K6∧K6.toNat<AQ.length)<|
  (Jc ({data:= #[101,100,103,101]}:ByteArray) (AQ.getD K6.toNat default)).bind fun ZC=>
  ck (ZC.size+({data:= #[10]}:ByteArray).size<1099511627776)<|
  ck (out.size+(ZC++({data:= #[10]}:ByteArray)).size<1099511627776)<|
  some (Sum.inl ((out++(ZC++({data:= #[10]}:ByteArray))),IntKind.i64.wrap (K6+1)))
 else
  some (Sum.inr out)
noncomputable def Iw(AQ:List (List Int))(v:ByteArray×Int):Option (ByteArray):=Jk (fun v=>FZ AQ v.1 v.2) v
noncomputable def Lr(AR:Int)(AV:Int)(AY:List (List Int))(AQ:List (List Int)):Option (ByteArray):=
 (Jc ({data:= #[112,114,111,98,108,101,109]}:ByteArray) [AR,AV]).bind fun cu=>
 ck (cu.size+({data:= #[10]}:ByteArray).size<1099511627776)<|
 (Iu AR AV AY AQ ((cu++({data:= #[10]}:ByteArray)),0)).bind fun AZ=>
 (Iw AQ (AZ,0)).bind fun Ia=>
 some Ia
def VK:SC:=
 .seq
 (.ops [
 ⟨(some 19),(.binOp .lss 3 (.tmp 18) (.tmp 17) 3),0,none⟩])
 (.seq
 (.cond (.tmp 19)
 .skip
 (.exit 0))
 (.seq
 (.block 1
 (.seq
 (.ops [
 ⟨(some 20),(.indexAddr 34 (.tmp 16) (.tmp 18)),0,none⟩,
 ⟨(some 21),(.load 70 (.tmp 20)),70,none⟩,
 ⟨(some 5),(.assign (.tmp 21)),70,none⟩])
 (.ops [
 ⟨(some 22),(.move (.tmp 3)),9,none⟩,
 ⟨(some 23),(.move (.tmp 5)),70,none⟩,
 ⟨(some 24),(.call ⟨(.value (.func 66)), #[(.const (.string {data:= #[110,111,100,101]})),(.tmp 23)], #[9,70]⟩),9,none⟩,
 ⟨(some 25),(.binOp .add 9 (.tmp 24) (.const (.string {data:= #[10]})) 9),9,none⟩,
 ⟨(some 26),(.binOp .add 9 (.tmp 22) (.tmp 25) 9),9,none⟩,
 ⟨(some 3),(.assign (.tmp 26)),9,none⟩])))
 (.ops [
 ⟨(some 27),(.binOp .add 3 (.tmp 18) (.const (.int .i64 1)) 3),3,none⟩,
 ⟨(some 18),(.move (.tmp 27)),3,none⟩])))
def jF:SC:= .loop VK
def VL:SC:=
 .seq
 (.ops [
 ⟨(some 32),(.binOp .lss 3 (.tmp 31) (.tmp 30) 3),0,none⟩])
 (.seq
 (.cond (.tmp 32)
 .skip
 (.exit 2))
 (.seq
 (.block 3
 (.seq
 (.ops [
 ⟨(some 33),(.indexAddr 34 (.tmp 29) (.tmp 31)),0,none⟩,
 ⟨(some 34),(.load 70 (.tmp 33)),70,none⟩,
 ⟨(some 7),(.assign (.tmp 34)),70,none⟩])
 (.ops [
 ⟨(some 35),(.move (.tmp 3)),9,none⟩,
 ⟨(some 36),(.move (.tmp 7)),70,none⟩,
 ⟨(some 37),(.call ⟨(.value (.func 66)), #[(.const (.string {data:= #[101,100,103,101]})),(.tmp 36)], #[9,70]⟩),9,none⟩,
 ⟨(some 38),(.binOp .add 9 (.tmp 37) (.const (.string {data:= #[10]})) 9),9,none⟩,
 ⟨(some 39),(.binOp .add 9 (.tmp 35) (.tmp 38) 9),9,none⟩,
 ⟨(some 3),(.assign (.tmp 39)),9,none⟩])))
 (.ops [
 ⟨(some 40),(.binOp .add 3 (.tmp 31) (.const (.int .i64 1)) 3),3,none⟩,
 ⟨(some 31),(.move (.tmp 40)),3,none⟩])))
def jG:SC:= .loop VL
def k41:SC:=
 .seq
 (.ops [
 ⟨(some 1),(.box 39 (.tmp 0)),0,none⟩,
 ⟨(some 2),(.assign (.const (.string {data:= #[]}))),9,none⟩])
 (.seq
 (.ops [
 ⟨(some 8),(.fieldAddr 39 (.tmp 1) 0),0,none⟩,
 ⟨(some 9),(.load 3 (.tmp 8)),3,none⟩,
 ⟨(some 10),(.fieldAddr 39 (.tmp 1) 1),0,none⟩,
 ⟨(some 11),(.load 3 (.tmp 10)),3,none⟩,
 ⟨(some 12),(.buildSlice 70 2 #[(0,(.tmp 9)),(1,(.tmp 11))]),70,none⟩,
 ⟨(some 13),(.call ⟨(.value (.func 66)), #[(.const (.string {data:= #[112,114,111,98,108,101,109]})),(.tmp 12)], #[9,70]⟩),9,none⟩,
 ⟨(some 14),(.binOp .add 9 (.tmp 13) (.const (.string {data:= #[10]})) 9),9,none⟩,
 ⟨(some 3),(.assign (.tmp 14)),9,none⟩])
 (.seq
 (.seq
 (.ops [
 ⟨(some 15),(.fieldAddr 39 (.tmp 1) 2),0,none⟩,
 ⟨(some 16),(.load 34 (.tmp 15)),34,none⟩,
 ⟨(some 17),(.call ⟨(.builtin .len), #[(.tmp 16)], #[34]⟩),3,none⟩,
 ⟨(some 18),(.move (.const (.int .i64 0))),3,none⟩])
 (.block 0
 jF))
 (.seq
 (.seq
 (.ops [
 ⟨(some 28),(.fieldAddr 39 (.tmp 1) 3),0,none⟩,
 ⟨(some 29),(.load 34 (.tmp 28)),34,none⟩,
 ⟨(some 30),(.call ⟨(.builtin .len), #[(.tmp 29)], #[34]⟩),3,none⟩,
 ⟨(some 31),(.move (.const (.int .i64 0))),3,none⟩])
 (.block 2
 jG))
 (.seq
 (.ops [
 ⟨(some 41),(.move (.tmp 3)),9,none⟩,
 ⟨(some 2),(.assign (.tmp 41)),9,none⟩])
 .ret))))
theorem wO:Tryd.f41.body.map (CY lends)=some k41:=by kernel_rfl
theorem ACw:DR Tryd.f41 1=true:=by kernel_rfl
theorem c41{a l:List D}{r:D×List D}(h:Cu Y.env k41 (HZ Ak l.length [ResultVar.tmp 2] r) (entry a l))(ha:a.length=1):Y.call 41 a l=some r:=
 Ah (Y:=Y) rfl Tryd.func41 (ha▸ACw) wO h
def Fa(AR:Int)(AV:Int)(AY:List (List Int))(AQ:List (List Int))(out:ByteArray)(K5:Int)(s:St):Prop:=s.v 1=D.box [D.int .i64 AR,D.int .i64 AV,D.sl 70 (AJ (fun x=>D.sl 3 (AJ (D.int .i64) x)) AY),D.sl 70 (AJ (fun x=>D.sl 3 (AJ (D.int .i64) x)) AQ)]∧s.v 3=D.str out∧s.v 16=D.sl 70 (AJ (fun x=>D.sl 3 (AJ (D.int .i64) x)) AY)∧s.v 17=D.int .i64 (AY.length:Int)∧s.v 18=D.int .i64 K5
def Gn(AR:Int)(AV:Int)(AY:List (List Int))(AQ:List (List Int))(r:ByteArray)(ex:Ex)(s:St):Prop:=ex= .exit 0∧s.v 1=D.box [D.int .i64 AR,D.int .i64 AV,D.sl 70 (AJ (fun x=>D.sl 3 (AJ (D.int .i64) x)) AY),D.sl 70 (AJ (fun x=>D.sl 3 (AJ (D.int .i64) x)) AQ)]∧s.v 3=D.str r
theorem Ra(AR:Int)(AV:Int)(AY:List (List Int))(AQ:List (List Int)){v:ByteArray×Int}{s:St}{r:ByteArray}(h:Iu AR AV AY AQ v=some r)(hM:Fa AR AV AY AQ v.1 v.2 s):Cu Y.env jF (Gn AR AV AY AQ r) s:=by
 unfold Iu at h
 refine DL (c:=VK) (fun v=>FY AR AV AY AQ v.1 v.2) (fun v s=>Fa AR AV AY AQ v.1 v.2 s) (Gn AR AV AY AQ) ?_ h hM
 clear h hM s v r
 intro v s o hM h
 obtain⟨out,K5⟩:=v
 dsimp only at h hM
 unfold FY at h
 unfold Fa at hM
 obtain⟨m0,m1,m2,m3,m4⟩:=hM
 unfold VK
 by_cases e3:K5<(AY.length:Int)
 ·rw [if_pos e3]at h
  obtain⟨e4,h⟩:=Cf h
  obtain⟨ZB,hl5,h⟩:=BP h
  try dsimp only at h
  have c5:=K7 ({data:= #[110,111,100,101]}:ByteArray) (AY.getD K5.toNat default) hl5
  obtain⟨e6,h⟩:=Cf h
  obtain⟨e7,h⟩:=Cf h
  obtain rfl:=Option.some.inj h
  simp (maxDischargeDepth:=9) only [↓AL,AB,AO,Ao,AC,AP,Ap,↓reduceIte,Nat.reduceEqDiff,Nat.reduceLT,Nat.reduceLeDiff,Nat.reduceAdd,Nat.reduceMul,Nat.reduceMod,Nat.reduceDiv,Nat.reducePow,Nat.reduceSub,Nat.reduceBEq,Int.reduceLE,Int.reduceLT,Int.reduceEq,Int.reduceSub,Int.reduceAdd,Int.reduceToNat,Int.reduceNeg,m0,m1,m2,m3,m4,e3,e4.1,e4.2,c5,e6,e7,Fa,Gn,De,Df,Dh]<;>(repeat' apply And.intro)<;>first|rfl|exact⟨_,rfl⟩|exact⟨_,_,rfl⟩|simp [AJ,A7]
 ·rw [if_neg e3]at h
  obtain rfl:=Option.some.inj h
  simp (maxDischargeDepth:=9) only [↓AL,AB,AO,Ao,AC,AP,Ap,↓reduceIte,Nat.reduceEqDiff,Nat.reduceLT,Nat.reduceLeDiff,Nat.reduceAdd,Nat.reduceMul,Nat.reduceMod,Nat.reduceDiv,Nat.reducePow,Nat.reduceSub,Nat.reduceBEq,Int.reduceLE,Int.reduceLT,Int.reduceEq,Int.reduceSub,Int.reduceAdd,Int.reduceToNat,Int.reduceNeg,m0,m1,m2,m3,m4,e3,Fa,Gn,De,Df,Dh]<;>(repeat' apply And.intro)<;>first|rfl|exact⟨_,rfl⟩|exact⟨_,_,rfl⟩|simp [AJ,A7]
def Fb(AQ:List (List Int))(out:ByteArray)(K6:Int)(s:St):Prop:=s.v 3=D.str out∧s.v 29=D.sl 70 (AJ (fun x=>D.sl 3 (AJ (D.int .i64) x)) AQ)∧s.v 30=D.int .i64 (AQ.length:Int)∧s.v 31=D.int .i64 K6
def Gp(AQ:List (List Int))(r:ByteArray)(ex:Ex)(s:St):Prop:=ex= .exit 2∧s.v 3=D.str r
theorem Rb(AQ:List (List Int)){v:ByteArray×Int}{s:St}{r:ByteArray}(h:Iw AQ v=some r)(hM:Fb AQ v.1 v.2 s):Cu Y.env jG (Gp AQ r) s:=by
 unfold Iw at h
 refine DL (c:=VL) (fun v=>FZ AQ v.1 v.2) (fun v s=>Fb AQ v.1 v.2 s) (Gp AQ) ?_ h hM
 clear h hM s v r
 intro v s o hM h
 obtain⟨out,K6⟩:=v
 dsimp only at h hM
 unfold FZ at h
 unfold Fb at hM
 obtain⟨m0,m1,m2,m3⟩:=hM
 unfold VL
 by_cases e5:K6<(AQ.length:Int)
 ·rw [if_pos e5]at h
  obtain⟨e6,h⟩:=Cf h
  obtain⟨ZC,hl7,h⟩:=BP h
  try dsimp only at h
  have c7:=K7 ({data:= #[101,100,103,101]}:ByteArray) (AQ.getD K6.toNat default) hl7
  obtain⟨e8,h⟩:=Cf h
  obtain⟨e9,h⟩:=Cf h
  obtain rfl:=Option.some.inj h
  simp (maxDischargeDepth:=9) only [↓AL,AB,AO,Ao,AC,AP,Ap,↓reduceIte,Nat.reduceEqDiff,Nat.reduceLT,Nat.reduceLeDiff,Nat.reduceAdd,Nat.reduceMul,Nat.reduceMod,Nat.reduceDiv,Nat.reducePow,Nat.reduceSub,Nat.reduceBEq,Int.reduceLE,Int.reduceLT,Int.reduceEq,Int.reduceSub,Int.reduceAdd,Int.reduceToNat,Int.reduceNeg,m0,m1,m2,m3,e5,e6.1,e6.2,c7,e8,e9,Fb,Gp,De,Df,Dh]<;>(repeat' apply And.intro)<;>first|rfl|exact⟨_,rfl⟩|exact⟨_,_,rfl⟩|simp [AJ,A7]
 ·rw [if_neg e5]at h
  obtain rfl:=Option.some.inj h
  simp (maxDischargeDepth:=9) only [↓AL,AB,AO,Ao,AC,AP,Ap,↓reduceIte,Nat.reduceEqDiff,Nat.reduceLT,Nat.reduceLeDiff,Nat.reduceAdd,Nat.reduceMul,Nat.reduceMod,Nat.reduceDiv,Nat.reducePow,Nat.reduceSub,Nat.reduceBEq,Int.reduceLE,Int.reduceLT,Int.reduceEq,Int.reduceSub,Int.reduceAdd,Int.reduceToNat,Int.reduceNeg,m0,m1,m2,m3,e5,Fb,Gp,De,Df,Dh]<;>(repeat' apply And.intro)<;>first|rfl|exact⟨_,rfl⟩|exact⟨_,_,rfl⟩|simp [AJ,A7]
theorem Su(AR:Int)(AV:Int)(AY:List (List Int))(AQ:List (List Int)){r:ByteArray}(h:Lr AR AV AY AQ=some r):Y.call 41 [D.agg [D.int .i64 AR,D.int .i64 AV,D.sl 70 (AJ (fun x=>D.sl 3 (AJ (D.int .i64) x)) AY),D.sl 70 (AJ (fun x=>D.sl 3 (AJ (D.int .i64) x)) AQ)]] []=some (D.str r,[]):=by
 refine c41 ?_ rfl
 unfold k41
 unfold Lr at h
 obtain⟨cu,hl1,h⟩:=BP h
 try dsimp only at h
 have c1:=K7 ({data:= #[112,114,111,98,108,101,109]}:ByteArray) [AR,AV] hl1
 simp only [Fz,Zl,Gf,MI,List.append_nil,List.cons_append,List.nil_append]at c1
 obtain⟨e2,h⟩:=Cf h
 obtain⟨AZ,hl4,h⟩:=BP h
 try dsimp only at h
 simp (maxDischargeDepth:=9) only [↓AL,AB,AO,Ao,AC,AP,Ap,↓reduceIte,Nat.reduceEqDiff,Nat.reduceLT,Nat.reduceLeDiff,Nat.reduceAdd,Nat.reduceMul,Nat.reduceMod,Nat.reduceDiv,Nat.reducePow,Nat.reduceSub,Nat.reduceBEq,Int.reduceLE,Int.reduceLT,Int.reduceEq,Int.reduceSub,Int.reduceAdd,Int.reduceToNat,Int.reduceNeg,c1,e2]
 refine C8 (Ra AR AV AY AQ hl4 ?_) ?_
 ·simp (maxDischargeDepth:=9) only [↓AL,AB,AO,Ao,AC,AP,Ap,↓reduceIte,Nat.reduceEqDiff,Nat.reduceLT,Nat.reduceLeDiff,Nat.reduceAdd,Nat.reduceMul,Nat.reduceMod,Nat.reduceDiv,Nat.reducePow,Nat.reduceSub,Nat.reduceBEq,Int.reduceLE,Int.reduceLT,Int.reduceEq,Int.reduceSub,Int.reduceAdd,Int.reduceToNat,Int.reduceNeg,c1,e2,Fa]<;>(repeat' apply And.intro)<;>first|rfl|exact⟨_,rfl⟩|exact⟨_,_,rfl⟩|simp [AJ,A7]
 ·intro ex4 s4 hX4
  unfold Gn at hX4
  obtain⟨rfl,n4_0,n4_1⟩:=hX4
  obtain⟨Ia,hl6,h⟩:=BP h
  try dsimp only at h
  simp (maxDischargeDepth:=9) only [↓AL,AB,AO,Ao,AC,AP,Ap,↓reduceIte,Nat.reduceEqDiff,Nat.reduceLT,Nat.reduceLeDiff,Nat.reduceAdd,Nat.reduceMul,Nat.reduceMod,Nat.reduceDiv,Nat.reducePow,Nat.reduceSub,Nat.reduceBEq,Int.reduceLE,Int.reduceLT,Int.reduceEq,Int.reduceSub,Int.reduceAdd,Int.reduceToNat,Int.reduceNeg,c1,e2,n4_0,n4_1]
  refine C8 (Rb AQ hl6 ?_) ?_
  ·simp (maxDischargeDepth:=9) only [↓AL,AB,AO,Ao,AC,AP,Ap,↓reduceIte,Nat.reduceEqDiff,Nat.reduceLT,Nat.reduceLeDiff,Nat.reduceAdd,Nat.reduceMul,Nat.reduceMod,Nat.reduceDiv,Nat.reducePow,Nat.reduceSub,Nat.reduceBEq,Int.reduceLE,Int.reduceLT,Int.reduceEq,Int.reduceSub,Int.reduceAdd,Int.reduceToNat,Int.reduceNeg,c1,e2,n4_0,n4_1,Fb]<;>(repeat' apply And.intro)<;>first|rfl|exact⟨_,rfl⟩|exact⟨_,_,rfl⟩|simp [AJ,A7]
  ·intro ex6 s6 hX6
   unfold Gp at hX6
   obtain⟨rfl,n6_0⟩:=hX6
   obtain rfl:=Option.some.inj h
   simp (maxDischargeDepth:=9) only [↓AL,AB,AO,Ao,AC,AP,Ap,↓reduceIte,Nat.reduceEqDiff,Nat.reduceLT,Nat.reduceLeDiff,Nat.reduceAdd,Nat.reduceMul,Nat.reduceMod,Nat.reduceDiv,Nat.reducePow,Nat.reduceSub,Nat.reduceBEq,Int.reduceLE,Int.reduceLT,Int.reduceEq,Int.reduceSub,Int.reduceAdd,Int.reduceToNat,Int.reduceNeg,c1,e2,n6_0]<;>(repeat' apply And.intro)<;>first|rfl|exact⟨_,rfl⟩|exact⟨_,_,rfl⟩|simp [AJ,A7]
end Go.Proofs.YtaogbcdlpgfplaaDoor
