/- Copies, comparisons, sizes and marks of numbers in lists, as plain functions. Conditions: the lists are short. -/
import Derived.Test.YtaogbcdlpgfplaaDoorL6
import Derived.Test.YtaogbcdlpgfplaaDoorDt
namespace Go.Proofs.YtaogbcdlpgfplaaDoor
open Go Dv
set_option linter.unusedSimpArgs false
set_option linter.unusedVariables false
set_option maxRecDepth 100000
set_option maxHeartbeats 4000000
def BV(l:List (List Int)):Prop:=l.length<1099511627776∧ ∀x∈l,x.length<1099511627776
theorem BV.nil:BV []:=⟨by decide,fun _ h=>by cases h⟩
theorem BV.at{l:List (List Int)}(h:BV l)(i:Nat)(hi:i<l.length):l[i].length<1099511627776:=h.2 _ (List.getElem_mem hi)
instance (l:List (List Int)):Decidable (BV l):=by unfold BV;infer_instance
noncomputable def FU(a:List Int)(b:List Int)(i:Int):Option ((Int)⊕(Unit⊕Unit)):=
 if i<(a.length:Int)then
  ck (0≤i∧i.toNat<a.length)<|
  ck (0≤i∧i.toNat<b.length)<|
  if(a.getD i.toNat default)=(b.getD i.toNat default)then
   some (Sum.inl (IntKind.i64.wrap (i+1)))
  else
   some (Sum.inr (Sum.inl ()))
 else
  some (Sum.inr (Sum.inr ()))
noncomputable def Jo(a:List Int)(b:List Int)(v:Int):Option (Unit⊕Unit):=Jk (fun v=>FU a b v) v
noncomputable def Nw(a:List Int)(b:List Int):Option (Bool):=
 if(a.length:Int)=(b.length:Int)then
  (Jo a b 0).bind fun AZ=>
  match AZ with
  | .inl q1000_=>
   some false
  | .inr q1000_=>
   some true
 else
  some false
def Uq:SC:=
 .seq
 (.seq
 (.ops [
 ⟨(some 11),(.move (.tmp 5)),3,none⟩,
 ⟨(some 12),(.move (.tmp 0)),70,none⟩,
 ⟨(some 13),(.call ⟨(.builtin .len), #[(.tmp 12)], #[70]⟩),3,none⟩,
 ⟨(some 14),(.binOp .lss 3 (.tmp 11) (.tmp 13) 3),4,none⟩])
 (.cond (.tmp 14)
 .skip
 (.exit 0)))
 (.seq
 (.block 1
 (.seq
 (.draws [
 (⟨[17,0,0],[17,18,19,20,21,22,23,24,25],[17]⟩,⟨(some 17),(.move (.tmp 0)),70,none⟩),
 (⟨[18,5,5],[17,18,19,20,21,22,23,24,25],[18]⟩,⟨(some 18),(.move (.tmp 5)),3,none⟩),
 (⟨[19,17,18,0,5],[17,18,19,20,21,22,23,24,25],[19]⟩,⟨(some 19),(.indexAddr 70 (.tmp 17) (.tmp 18)),0,none⟩),
 (⟨[20,19,0],[17,18,19,20,21,22,23,24,25],[20]⟩,⟨(some 20),(.load 3 (.tmp 19)),3,none⟩),
 (⟨[21,1,1],[17,18,19,20,21,22,23,24,25],[21]⟩,⟨(some 21),(.move (.tmp 1)),70,none⟩),
 (⟨[22,5,5],[17,18,19,20,21,22,23,24,25],[22]⟩,⟨(some 22),(.move (.tmp 5)),3,none⟩),
 (⟨[23,21,22,1,5],[17,18,19,20,21,22,23,24,25],[23]⟩,⟨(some 23),(.indexAddr 70 (.tmp 21) (.tmp 22)),0,none⟩),
 (⟨[24,23,1],[17,18,19,20,21,22,23,24,25],[24]⟩,⟨(some 24),(.load 3 (.tmp 23)),3,none⟩),
 (⟨[25,20,24,0,1],[17,18,19,20,21,22,23,24,25],[25]⟩,⟨(some 25),(.binOp .neq 3 (.tmp 20) (.tmp 24) 3),4,none⟩)])
 (.cond (.tmp 25)
 (.seq
 (.ops [
 ⟨(some 4),(.assign (.const (.bool false))),4,none⟩])
 .ret)
 .skip)))
 (.ops [
 ⟨(some 15),(.move (.tmp 5)),3,none⟩,
 ⟨(some 16),(.binOp .add 3 (.tmp 15) (.const (.int .i64 1)) 3),3,none⟩,
 ⟨(some 5),(.assign (.tmp 16)),3,none⟩]))
def iX:SC:= .loop Uq
def k70:SC:=
 .seq
 (.ops [
 ⟨(some 4),(.assign (.const (.bool false))),4,none⟩])
 (.seq
 (.seq
 (.ops [
 ⟨(some 6),(.move (.tmp 0)),70,none⟩,
 ⟨(some 7),(.call ⟨(.builtin .len), #[(.tmp 6)], #[70]⟩),3,none⟩,
 ⟨(some 8),(.move (.tmp 1)),70,none⟩,
 ⟨(some 9),(.call ⟨(.builtin .len), #[(.tmp 8)], #[70]⟩),3,none⟩,
 ⟨(some 10),(.binOp .neq 3 (.tmp 7) (.tmp 9) 3),4,none⟩])
 (.cond (.tmp 10)
 (.seq
 (.ops [
 ⟨(some 4),(.assign (.const (.bool false))),4,none⟩])
 .ret)
 .skip))
 (.seq
 (.seq
 (.ops [
 ⟨(some 5),(.assign (.const (.int .i64 0))),3,none⟩])
 (.block 0
 iX))
 (.seq
 (.ops [
 ⟨(some 4),(.assign (.const (.bool true))),4,none⟩])
 .ret)))
theorem vL:Tryd.f70.body.map (CY lends)=some k70:=by kernel_rfl
theorem AC2:DR Tryd.f70 2=true:=by kernel_rfl
theorem c70{a l:List D}{r:D×List D}(h:Cu Y.env k70 (HZ Ak l.length [ResultVar.tmp 4] r) (entry a l))(ha:a.length=2):Y.call 70 a l=some r:=
 Ah (Y:=Y) rfl Tryd.func70 (ha▸AC2) vL h
def EU(a:List Int)(b:List Int)(i:Int)(s:St):Prop:=s.v 0=D.sl 3 (AJ (D.int .i64) a)∧s.v 1=D.sl 3 (AJ (D.int .i64) b)∧s.v 5=D.int .i64 i
def EW(a:List Int)(b:List Int)(r:Unit⊕Unit)(ex:Ex)(s:St):Prop:=match r with
 | .inl q=>ex= .ret∧s.v 4=D.bool false
 | .inr q=>ex= .exit 0
theorem RG(a:List Int)(b:List Int){v:Int}{s:St}{r:Unit⊕Unit}(h:Jo a b v=some r)(hM:EU a b v s):Cu Y.env iX (EW a b r) s:=by
 unfold Jo at h
 refine DL (c:=Uq) (fun v=>FU a b v) (fun v s=>EU a b v s) (EW a b) ?_ h hM
 clear h hM s v r
 intro i s o hM h
 unfold FU at h
 unfold EU at hM
 obtain⟨m0,m1,m2⟩:=hM
 unfold Uq
 by_cases e2:i<(a.length:Int)
 ·rw [if_pos e2]at h
  obtain⟨e3,h⟩:=Cf h
  obtain⟨e4,h⟩:=Cf h
  by_cases e5:(a.getD i.toNat default)=(b.getD i.toNat default)
  ·rw [if_pos e5]at h
   obtain rfl:=Option.some.inj h
   simp (maxDischargeDepth:=9) only [↓AL,AB,AO,Ao,AC,AP,Ap,↓reduceIte,Nat.reduceEqDiff,Nat.reduceLT,Nat.reduceLeDiff,Nat.reduceAdd,Nat.reduceMul,Nat.reduceMod,Nat.reduceDiv,Nat.reducePow,Nat.reduceSub,Nat.reduceBEq,Int.reduceLE,Int.reduceLT,Int.reduceEq,Int.reduceSub,Int.reduceAdd,Int.reduceToNat,Int.reduceNeg,m0,m1,m2,e2,e3.1,e3.2,e4.1,e4.2,decide_eq_true e5,EU,EW,De,Df,Dh]<;>(repeat' apply And.intro)<;>first|rfl|exact⟨_,rfl⟩|exact⟨_,_,rfl⟩|simp [AJ,A7]
  ·rw [if_neg e5]at h
   obtain rfl:=Option.some.inj h
   simp (maxDischargeDepth:=9) only [↓AL,AB,AO,Ao,AC,AP,Ap,↓reduceIte,Nat.reduceEqDiff,Nat.reduceLT,Nat.reduceLeDiff,Nat.reduceAdd,Nat.reduceMul,Nat.reduceMod,Nat.reduceDiv,Nat.reducePow,Nat.reduceSub,Nat.reduceBEq,Int.reduceLE,Int.reduceLT,Int.reduceEq,Int.reduceSub,Int.reduceAdd,Int.reduceToNat,Int.reduceNeg,m0,m1,m2,e2,e3.1,e3.2,e4.1,e4.2,e5,EU,EW,De,Df,Dh]<;>(repeat' apply And.intro)<;>first|rfl|exact⟨_,rfl⟩|exact⟨_,_,rfl⟩|simp [AJ,A7]
 ·rw [if_neg e2]at h
  obtain rfl:=Option.some.inj h
  simp (maxDischargeDepth:=9) only [↓AL,AB,AO,Ao,AC,AP,Ap,↓reduceIte,Nat.reduceEqDiff,Nat.reduceLT,Nat.reduceLeDiff,Nat.reduceAdd,Nat.reduceMul,Nat.reduceMod,Nat.reduceDiv,Nat.reducePow,Nat.reduceSub,Nat.reduceBEq,Int.reduceLE,Int.reduceLT,Int.reduceEq,Int.reduceSub,Int.reduceAdd,Int.reduceToNat,Int.reduceNeg,m0,m1,m2,e2,EU,EW,De,Df,Dh]<;>(repeat' apply And.intro)<;>first|rfl|exact⟨_,rfl⟩|exact⟨_,_,rfl⟩|simp [AJ,A7]
theorem Sc(a:List Int)(b:List Int){r:Bool}(h:Nw a b=some r):Y.call 70 [D.sl 3 (AJ (D.int .i64) a),D.sl 3 (AJ (D.int .i64) b)] []=some (D.bool r,[]):=by
 refine c70 ?_ rfl
 unfold k70
 unfold Nw at h
 by_cases e1:(a.length:Int)=(b.length:Int)
 ·rw [if_pos e1]at h
  obtain⟨AZ,hl3,h⟩:=BP h
  try dsimp only at h
  simp (maxDischargeDepth:=9) only [↓AL,AB,AO,Ao,AC,AP,Ap,↓reduceIte,Nat.reduceEqDiff,Nat.reduceLT,Nat.reduceLeDiff,Nat.reduceAdd,Nat.reduceMul,Nat.reduceMod,Nat.reduceDiv,Nat.reducePow,Nat.reduceSub,Nat.reduceBEq,Int.reduceLE,Int.reduceLT,Int.reduceEq,Int.reduceSub,Int.reduceAdd,Int.reduceToNat,Int.reduceNeg,decide_eq_true e1]
  refine C8 (RG a b hl3 ?_) ?_
  ·simp (maxDischargeDepth:=9) only [↓AL,AB,AO,Ao,AC,AP,Ap,↓reduceIte,Nat.reduceEqDiff,Nat.reduceLT,Nat.reduceLeDiff,Nat.reduceAdd,Nat.reduceMul,Nat.reduceMod,Nat.reduceDiv,Nat.reducePow,Nat.reduceSub,Nat.reduceBEq,Int.reduceLE,Int.reduceLT,Int.reduceEq,Int.reduceSub,Int.reduceAdd,Int.reduceToNat,Int.reduceNeg,decide_eq_true e1,EU]<;>(repeat' apply And.intro)<;>first|rfl|exact⟨_,rfl⟩|exact⟨_,_,rfl⟩|simp [AJ,A7]
  ·intro ex3 s3 hX3
   rcases AZ with q1000_|q1000_
   ·unfold EW at hX3
    dsimp only at hX3 h
    obtain⟨rfl,n3_0⟩:=hX3
    obtain rfl:=Option.some.inj h
    simp (maxDischargeDepth:=9) only [↓AL,AB,AO,Ao,AC,AP,Ap,↓reduceIte,Nat.reduceEqDiff,Nat.reduceLT,Nat.reduceLeDiff,Nat.reduceAdd,Nat.reduceMul,Nat.reduceMod,Nat.reduceDiv,Nat.reducePow,Nat.reduceSub,Nat.reduceBEq,Int.reduceLE,Int.reduceLT,Int.reduceEq,Int.reduceSub,Int.reduceAdd,Int.reduceToNat,Int.reduceNeg,decide_eq_true e1,n3_0]<;>(repeat' apply And.intro)<;>first|rfl|exact⟨_,rfl⟩|exact⟨_,_,rfl⟩|simp [AJ,A7]
   ·unfold EW at hX3
    dsimp only at hX3 h
    obtain rfl:=hX3
    obtain rfl:=Option.some.inj h
    simp (maxDischargeDepth:=9) only [↓AL,AB,AO,Ao,AC,AP,Ap,↓reduceIte,Nat.reduceEqDiff,Nat.reduceLT,Nat.reduceLeDiff,Nat.reduceAdd,Nat.reduceMul,Nat.reduceMod,Nat.reduceDiv,Nat.reducePow,Nat.reduceSub,Nat.reduceBEq,Int.reduceLE,Int.reduceLT,Int.reduceEq,Int.reduceSub,Int.reduceAdd,Int.reduceToNat,Int.reduceNeg,decide_eq_true e1]<;>(repeat' apply And.intro)<;>first|rfl|exact⟨_,rfl⟩|exact⟨_,_,rfl⟩|simp [AJ,A7]
 ·rw [if_neg e1]at h
  obtain rfl:=Option.some.inj h
  simp (maxDischargeDepth:=9) only [↓AL,AB,AO,Ao,AC,AP,Ap,↓reduceIte,Nat.reduceEqDiff,Nat.reduceLT,Nat.reduceLeDiff,Nat.reduceAdd,Nat.reduceMul,Nat.reduceMod,Nat.reduceDiv,Nat.reducePow,Nat.reduceSub,Nat.reduceBEq,Int.reduceLE,Int.reduceLT,Int.reduceEq,Int.reduceSub,Int.reduceAdd,Int.reduceToNat,Int.reduceNeg,e1]<;>(repeat' apply And.intro)<;>first|rfl|exact⟨_,rfl⟩|exact⟨_,_,rfl⟩|simp [AJ,A7]
theorem XP(a b:List Int)(ha:a.length<1099511627776):Nw a b=some (decide (a=b)):=by
 unfold Nw Jo
 by_cases hl:a.length=b.length
 ·rw [if_pos (by omega)]
  have key:=MJ (fun v=>FU a b v) (fun i=>(i:Int)) a.length (fun i=>decide (a.getD i default=b.getD i default)) (.inl ()) (.inr ()) ?_ ?_
  ·simp only [Int.natCast_zero]at key
   rw [key,XG a b hl]
   by_cases he:a=b<;>simp [he]
  ·intro i hi
   simp only [FU]
   rw [if_pos (EJ hi),Cn (Hu hi),Cn (Hu (by omega)),Int.toNat_natCast,PV i (by omega)]<;>simp only [decide_eq_true_eq]
  ·simp only [FU]
   rw [if_neg (Bq _)]
 ·rw [if_neg (by omega)]
  have: ¬a=b:=fun e=>hl (by rw [e])
  simp [this]
theorem XQ(a:List Int)(b:List Int)(h0:a.length<1099511627776):Y.call 70 [D.sl 3 (AJ (D.int .i64) a),D.sl 3 (AJ (D.int .i64) b)] []=some (D.bool (decide (a=b)),[]):=Sc a b (XP a b h0)
noncomputable def Ej(a:List (List Int))(b:List (List Int))(i:Int):Option ((Int)⊕(Unit⊕Unit)):=
 if i<(a.length:Int)then
  ck (0≤i∧i.toNat<a.length)<|
  ck (0≤i∧i.toNat<b.length)<|
  ck ((a.getD i.toNat default).length<1099511627776)<|
  if(decide ((a.getD i.toNat default)=(b.getD i.toNat default)))=true then
   some (Sum.inl (IntKind.i64.wrap (i+1)))
  else
   some (Sum.inr (Sum.inl ()))
 else
  some (Sum.inr (Sum.inr ()))
noncomputable def JD(a:List (List Int))(b:List (List Int))(v:Int):Option (Unit⊕Unit):=Jk (fun v=>Ej a b v) v
noncomputable def MK(a:List (List Int))(b:List (List Int)):Option (Bool):=
 if(a.length:Int)=(b.length:Int)then
  (JD a b 0).bind fun AZ=>
  match AZ with
  | .inl q1000_=>
   some false
  | .inr q1000_=>
   some true
 else
  some false
def Ur:SC:=
 .seq
 (.seq
 (.ops [
 ⟨(some 11),(.move (.tmp 5)),3,none⟩,
 ⟨(some 12),(.move (.tmp 0)),34,none⟩,
 ⟨(some 13),(.call ⟨(.builtin .len), #[(.tmp 12)], #[34]⟩),3,none⟩,
 ⟨(some 14),(.binOp .lss 3 (.tmp 11) (.tmp 13) 3),4,none⟩])
 (.cond (.tmp 14)
 .skip
 (.exit 0)))
 (.seq
 (.block 1
 (.seq
 (.draws [
 (⟨[17,0,0],[17,18,19,20,21,22,23,24,25,26],[17]⟩,⟨(some 17),(.move (.tmp 0)),34,none⟩),
 (⟨[18,5,5],[17,18,19,20,21,22,23,24,25,26],[18]⟩,⟨(some 18),(.move (.tmp 5)),3,none⟩),
 (⟨[19,17,18,0,5],[17,18,19,20,21,22,23,24,25,26],[19]⟩,⟨(some 19),(.indexAddr 34 (.tmp 17) (.tmp 18)),0,none⟩),
 (⟨[20,19,0],[17,18,19,20,21,22,23,24,25,26],[20]⟩,⟨(some 20),(.load 70 (.tmp 19)),70,none⟩),
 (⟨[21,1,1],[17,18,19,20,21,22,23,24,25,26],[21]⟩,⟨(some 21),(.move (.tmp 1)),34,none⟩),
 (⟨[22,5,5],[17,18,19,20,21,22,23,24,25,26],[22]⟩,⟨(some 22),(.move (.tmp 5)),3,none⟩),
 (⟨[23,21,22,1,5],[17,18,19,20,21,22,23,24,25,26],[23]⟩,⟨(some 23),(.indexAddr 34 (.tmp 21) (.tmp 22)),0,none⟩),
 (⟨[24,23,1],[17,18,19,20,21,22,23,24,25,26],[24]⟩,⟨(some 24),(.load 70 (.tmp 23)),70,none⟩),
 (⟨[25,20,24,0,1],[17,18,19,20,21,22,23,24,25,26],[25]⟩,⟨(some 25),(.call ⟨(.value (.func 70)), #[(.tmp 20),(.tmp 24)], #[70,70]⟩),4,none⟩),
 (⟨[26,25,25],[17,18,19,20,21,22,23,24,25,26],[26]⟩,⟨(some 26),(.unOp .not 4 (.tmp 25)),4,none⟩)])
 (.cond (.tmp 26)
 (.seq
 (.ops [
 ⟨(some 4),(.assign (.const (.bool false))),4,none⟩])
 .ret)
 .skip)))
 (.ops [
 ⟨(some 15),(.move (.tmp 5)),3,none⟩,
 ⟨(some 16),(.binOp .add 3 (.tmp 15) (.const (.int .i64 1)) 3),3,none⟩,
 ⟨(some 5),(.assign (.tmp 16)),3,none⟩]))
def iY:SC:= .loop Ur
def k45:SC:=
 .seq
 (.ops [
 ⟨(some 4),(.assign (.const (.bool false))),4,none⟩])
 (.seq
 (.seq
 (.ops [
 ⟨(some 6),(.move (.tmp 0)),34,none⟩,
 ⟨(some 7),(.call ⟨(.builtin .len), #[(.tmp 6)], #[34]⟩),3,none⟩,
 ⟨(some 8),(.move (.tmp 1)),34,none⟩,
 ⟨(some 9),(.call ⟨(.builtin .len), #[(.tmp 8)], #[34]⟩),3,none⟩,
 ⟨(some 10),(.binOp .neq 3 (.tmp 7) (.tmp 9) 3),4,none⟩])
 (.cond (.tmp 10)
 (.seq
 (.ops [
 ⟨(some 4),(.assign (.const (.bool false))),4,none⟩])
 .ret)
 .skip))
 (.seq
 (.seq
 (.ops [
 ⟨(some 5),(.assign (.const (.int .i64 0))),3,none⟩])
 (.block 0
 iY))
 (.seq
 (.ops [
 ⟨(some 4),(.assign (.const (.bool true))),4,none⟩])
 .ret)))
theorem vM:Tryd.f45.body.map (CY lends)=some k45:=by kernel_rfl
theorem AC4:DR Tryd.f45 2=true:=by kernel_rfl
theorem c45{a l:List D}{r:D×List D}(h:Cu Y.env k45 (HZ Ak l.length [ResultVar.tmp 4] r) (entry a l))(ha:a.length=2):Y.call 45 a l=some r:=
 Ah (Y:=Y) rfl Tryd.func45 (ha▸AC4) vM h
def Dx(a:List (List Int))(b:List (List Int))(i:Int)(s:St):Prop:=s.v 0=D.sl 70 (AJ (fun x=>D.sl 3 (AJ (D.int .i64) x)) a)∧s.v 1=D.sl 70 (AJ (fun x=>D.sl 3 (AJ (D.int .i64) x)) b)∧s.v 5=D.int .i64 i
def Dy(a:List (List Int))(b:List (List Int))(r:Unit⊕Unit)(ex:Ex)(s:St):Prop:=match r with
 | .inl q=>ex= .ret∧s.v 4=D.bool false
 | .inr q=>ex= .exit 0
theorem Pk(a:List (List Int))(b:List (List Int)){v:Int}{s:St}{r:Unit⊕Unit}(h:JD a b v=some r)(hM:Dx a b v s):Cu Y.env iY (Dy a b r) s:=by
 unfold JD at h
 refine DL (c:=Ur) (fun v=>Ej a b v) (fun v s=>Dx a b v s) (Dy a b) ?_ h hM
 clear h hM s v r
 intro i s o hM h
 unfold Ej at h
 unfold Dx at hM
 obtain⟨m0,m1,m2⟩:=hM
 unfold Ur
 by_cases e2:i<(a.length:Int)
 ·rw [if_pos e2]at h
  obtain⟨e3,h⟩:=Cf h
  obtain⟨e4,h⟩:=Cf h
  obtain⟨e5,h⟩:=Cf h
  have c6:=XQ (a.getD i.toNat default) (b.getD i.toNat default) e5
  by_cases e7:(decide ((a.getD i.toNat default)=(b.getD i.toNat default)))=true
  ·rw [if_pos e7]at h
   obtain rfl:=Option.some.inj h
   simp (maxDischargeDepth:=9) only [↓AL,AB,AO,Ao,AC,AP,Ap,↓reduceIte,Nat.reduceEqDiff,Nat.reduceLT,Nat.reduceLeDiff,Nat.reduceAdd,Nat.reduceMul,Nat.reduceMod,Nat.reduceDiv,Nat.reducePow,Nat.reduceSub,Nat.reduceBEq,Int.reduceLE,Int.reduceLT,Int.reduceEq,Int.reduceSub,Int.reduceAdd,Int.reduceToNat,Int.reduceNeg,m0,m1,m2,e2,e3.1,e3.2,e4.1,e4.2,e5,c6,e7,Dx,Dy,De,Df,Dh]<;>(repeat' apply And.intro)<;>first|rfl|exact⟨_,rfl⟩|exact⟨_,_,rfl⟩|simp [AJ,A7]
  ·rw [if_neg e7]at h
   have e7f:(decide ((a.getD i.toNat default)=(b.getD i.toNat default)))=false:=Bool.eq_false_iff.mpr e7
   obtain rfl:=Option.some.inj h
   simp (maxDischargeDepth:=9) only [↓AL,AB,AO,Ao,AC,AP,Ap,↓reduceIte,Nat.reduceEqDiff,Nat.reduceLT,Nat.reduceLeDiff,Nat.reduceAdd,Nat.reduceMul,Nat.reduceMod,Nat.reduceDiv,Nat.reducePow,Nat.reduceSub,Nat.reduceBEq,Int.reduceLE,Int.reduceLT,Int.reduceEq,Int.reduceSub,Int.reduceAdd,Int.reduceToNat,Int.reduceNeg,m0,m1,m2,e2,e3.1,e3.2,e4.1,e4.2,e5,c6,e7f,Dx,Dy,De,Df,Dh]<;>(repeat' apply And.intro)<;>first|rfl|exact⟨_,rfl⟩|exact⟨_,_,rfl⟩|simp [AJ,A7]
 ·rw [if_neg e2]at h
  obtain rfl:=Option.some.inj h
  simp (maxDischargeDepth:=9) only [↓AL,AB,AO,Ao,AC,AP,Ap,↓reduceIte,Nat.reduceEqDiff,Nat.reduceLT,Nat.reduceLeDiff,Nat.reduceAdd,Nat.reduceMul,Nat.reduceMod,Nat.reduceDiv,Nat.reducePow,Nat.reduceSub,Nat.reduceBEq,Int.reduceLE,Int.reduceLT,Int.reduceEq,Int.reduceSub,Int.reduceAdd,Int.reduceToNat,Int.reduceNeg,m0,m1,m2,e2,Dx,Dy,De,Df,Dh]<;>(repeat' apply And.intro)<;>first|rfl|exact⟨_,rfl⟩|exact⟨_,_,rfl⟩|simp [AJ,A7]
theorem RH(a:List (List Int))(b:List (List Int)){r:Bool}(h:MK a b=some r):Y.call 45 [D.sl 70 (AJ (fun x=>D.sl 3 (AJ (D.int .i64) x)) a),D.sl 70 (AJ (fun x=>D.sl 3 (AJ (D.int .i64) x)) b)] []=some (D.bool r,[]):=by
 refine c45 ?_ rfl
 unfold k45
 unfold MK at h
 by_cases e1:(a.length:Int)=(b.length:Int)
 ·rw [if_pos e1]at h
  obtain⟨AZ,hl3,h⟩:=BP h
  try dsimp only at h
  simp (maxDischargeDepth:=9) only [↓AL,AB,AO,Ao,AC,AP,Ap,↓reduceIte,Nat.reduceEqDiff,Nat.reduceLT,Nat.reduceLeDiff,Nat.reduceAdd,Nat.reduceMul,Nat.reduceMod,Nat.reduceDiv,Nat.reducePow,Nat.reduceSub,Nat.reduceBEq,Int.reduceLE,Int.reduceLT,Int.reduceEq,Int.reduceSub,Int.reduceAdd,Int.reduceToNat,Int.reduceNeg,decide_eq_true e1]
  refine C8 (Pk a b hl3 ?_) ?_
  ·simp (maxDischargeDepth:=9) only [↓AL,AB,AO,Ao,AC,AP,Ap,↓reduceIte,Nat.reduceEqDiff,Nat.reduceLT,Nat.reduceLeDiff,Nat.reduceAdd,Nat.reduceMul,Nat.reduceMod,Nat.reduceDiv,Nat.reducePow,Nat.reduceSub,Nat.reduceBEq,Int.reduceLE,Int.reduceLT,Int.reduceEq,Int.reduceSub,Int.reduceAdd,Int.reduceToNat,Int.reduceNeg,decide_eq_true e1,Dx]<;>(repeat' apply And.intro)<;>first|rfl|exact⟨_,rfl⟩|exact⟨_,_,rfl⟩|simp [AJ,A7]
  ·intro ex3 s3 hX3
   rcases AZ with q1000_|q1000_
   ·unfold Dy at hX3
    dsimp only at hX3 h
    obtain⟨rfl,n3_0⟩:=hX3
    obtain rfl:=Option.some.inj h
    simp (maxDischargeDepth:=9) only [↓AL,AB,AO,Ao,AC,AP,Ap,↓reduceIte,Nat.reduceEqDiff,Nat.reduceLT,Nat.reduceLeDiff,Nat.reduceAdd,Nat.reduceMul,Nat.reduceMod,Nat.reduceDiv,Nat.reducePow,Nat.reduceSub,Nat.reduceBEq,Int.reduceLE,Int.reduceLT,Int.reduceEq,Int.reduceSub,Int.reduceAdd,Int.reduceToNat,Int.reduceNeg,decide_eq_true e1,n3_0]<;>(repeat' apply And.intro)<;>first|rfl|exact⟨_,rfl⟩|exact⟨_,_,rfl⟩|simp [AJ,A7]
   ·unfold Dy at hX3
    dsimp only at hX3 h
    obtain rfl:=hX3
    obtain rfl:=Option.some.inj h
    simp (maxDischargeDepth:=9) only [↓AL,AB,AO,Ao,AC,AP,Ap,↓reduceIte,Nat.reduceEqDiff,Nat.reduceLT,Nat.reduceLeDiff,Nat.reduceAdd,Nat.reduceMul,Nat.reduceMod,Nat.reduceDiv,Nat.reducePow,Nat.reduceSub,Nat.reduceBEq,Int.reduceLE,Int.reduceLT,Int.reduceEq,Int.reduceSub,Int.reduceAdd,Int.reduceToNat,Int.reduceNeg,decide_eq_true e1]<;>(repeat' apply And.intro)<;>first|rfl|exact⟨_,rfl⟩|exact⟨_,_,rfl⟩|simp [AJ,A7]
 ·rw [if_neg e1]at h
  obtain rfl:=Option.some.inj h
  simp (maxDischargeDepth:=9) only [↓AL,AB,AO,Ao,AC,AP,Ap,↓reduceIte,Nat.reduceEqDiff,Nat.reduceLT,Nat.reduceLeDiff,Nat.reduceAdd,Nat.reduceMul,Nat.reduceMod,Nat.reduceDiv,Nat.reducePow,Nat.reduceSub,Nat.reduceBEq,Int.reduceLE,Int.reduceLT,Int.reduceEq,Int.reduceSub,Int.reduceAdd,Int.reduceToNat,Int.reduceNeg,e1]<;>(repeat' apply And.intro)<;>first|rfl|exact⟨_,rfl⟩|exact⟨_,_,rfl⟩|simp [AJ,A7]
theorem Us(a b:List (List Int))(ha:BV a):MK a b=some (decide (a=b)):=by
 have h1:=ha.1
 unfold MK JD
 by_cases hl:a.length=b.length
 ·rw [if_pos (by omega)]
  have key:=MJ (fun v=>Ej a b v) (fun i=>(i:Int)) a.length (fun i=>decide (a.getD i default=b.getD i default)) (.inl ()) (.inr ()) ?_ ?_
  ·simp only [Int.natCast_zero]at key
   rw [key,XG a b hl]
   by_cases he:a=b<;>simp [he]
  ·intro i hi
   simp only [Ej]
   rw [if_pos (EJ hi),Cn (Hu hi),Cn (Hu (by omega)),Cn (by rw [Nr _ _ hi];exact ha.at i hi),Int.toNat_natCast,PV i (by omega)]<;>simp only [decide_eq_true_eq]
  ·simp only [Ej]
   rw [if_neg (Bq _)]
 ·rw [if_neg (by omega)]
  have: ¬a=b:=fun e=>hl (by rw [e])
  simp [this]
theorem Ny(a:List (List Int))(b:List (List Int))(h0:BV a):Y.call 45 [D.sl 70 (AJ (fun x=>D.sl 3 (AJ (D.int .i64) x)) a),D.sl 70 (AJ (fun x=>D.sl 3 (AJ (D.int .i64) x)) b)] []=some (D.bool (decide (a=b)),[]):=RH a b (Us a b h0)
def GU(l:List (List Int)):Int:=(l.map fun xs=>(xs.length:Int)).sum
theorem ML:GU []=0:=rfl
theorem JZ(x:List Int)(l:List (List Int)):GU (x::l)=x.length+GU l:=rfl
theorem EX(l:List (List Int)):0≤GU l:=by
 induction l with
 |nil=>rw [ML];omega
 |cons x l ih=>rw [JZ];omega
theorem lW{l:List (List Int)}{x:List Int}(h:x∈l):(x.length:Int)≤GU l:=by
 induction l with
 |nil=>cases h
 |cons y l ih=>
  rw [JZ]
  have:=EX l
  rcases List.mem_cons.1 h with rfl|h
  ·omega
  ·have:=ih h;omega
theorem Tg{l:List (List Int)}(h:l.length+GU l<1099511627776):BV l:=by
 have:=EX l
 exact⟨by omega,fun x hx=>by have:=lW hx;omega⟩
theorem NA{α:Type}(a b:List α)(x:α):(a.length:Int)<((a++x::b).length:Int):=by rw [List.length_append,List.length_cons];omega
theorem NB{α:Type}(a b:List α)(x:α):0≤(a.length:Int)∧(a.length:Int).toNat<(a++x::b).length:=by rw [List.length_append,List.length_cons];omega
theorem Nz{α:Type}(a:List α): ¬(a.length:Int)<((a++[]).length:Int):=by rw [List.append_nil];omega
def A5n(l:List (List Int)):Prop:=l.length<9223372036854775808∧ ∀x∈l,x.length<9223372036854775808
instance (l:List (List Int)):Decidable (A5n l):=by unfold A5n;infer_instance
def Ip(k:Int)(n:Nat):List Int:=(List.range n).map fun(i:Nat)=>k+i
theorem KS(k:Int)(n:Nat):(Ip k n).length=n:=by simp [Ip]
theorem iZ(xs:List Int)(k:Int)(i:Nat)(h:i<xs.length):(Ip k i++xs.drop i).set i (k+i)=Ip k (i+1)++xs.drop (i+1):=by
 rw [List.set_append_right _ _ (by simp [KS]),KS,Nat.sub_self,List.drop_eq_getElem_cons h,List.set_cons_zero]
 simp [Ip,List.range_succ]
noncomputable def EK(k:Int)(k1:Int)(i:Int)(CW:List Int):Option ((Int×Int×(List Int))⊕(Int×(List Int))):=
 if i<(CW.length:Int)then
  ck (0≤i∧i.toNat<CW.length)<|
  some (Sum.inl (IntKind.i64.wrap (k1+1),IntKind.i64.wrap (i+1),(CW.set i.toNat k1)))
 else
  some (Sum.inr (k1,CW))
noncomputable def Ie(k:Int)(v:Int×Int×(List Int)):Option (Int×(List Int)):=Jk (fun v=>EK k v.1 v.2.1 v.2.2) v
noncomputable def Ko(a:List Int)(k:Int):Option (Int×(List Int)):=
 (Ie k (k,0,a)).bind fun AZ=>
 some (AZ.1,AZ.2)
def Ut:SC:=
 .seq
 (.seq
 (.ops [
 ⟨(some 6),(.move (.tmp 5)),3,none⟩,
 ⟨(some 7),(.move (.tmp 0)),70,none⟩,
 ⟨(some 8),(.call ⟨(.builtin .len), #[(.tmp 7)], #[70]⟩),3,none⟩,
 ⟨(some 9),(.binOp .lss 3 (.tmp 6) (.tmp 8) 3),4,none⟩])
 (.cond (.tmp 9)
 .skip
 (.exit 0)))
 (.seq
 (.block 1
 (.seq
 (.ops [
 ⟨(some 12),(.move (.tmp 0)),70,none⟩,
 ⟨(some 13),(.move (.tmp 5)),3,none⟩,
 ⟨(some 14),(.move (.tmp 1)),3,none⟩,
 ⟨(some 15),(.indexAddr 70 (.tmp 12) (.tmp 13)),0,none⟩,
 ⟨none,(.store 3 (.tmp 15) (.tmp 14)),0,none⟩])
 (.ops [
 ⟨(some 16),(.move (.tmp 1)),3,none⟩,
 ⟨(some 17),(.binOp .add 3 (.tmp 16) (.const (.int .i64 1)) 3),3,none⟩,
 ⟨(some 1),(.assign (.tmp 17)),3,none⟩])))
 (.ops [
 ⟨(some 10),(.move (.tmp 5)),3,none⟩,
 ⟨(some 11),(.binOp .add 3 (.tmp 10) (.const (.int .i64 1)) 3),3,none⟩,
 ⟨(some 5),(.assign (.tmp 11)),3,none⟩]))
def ig:SC:= .loop Ut
def k73:SC:=
 .seq
 (.ops [
 ⟨(some 4),(.assign (.const (.int .i64 0))),3,none⟩])
 (.seq
 (.seq
 (.ops [
 ⟨(some 5),(.assign (.const (.int .i64 0))),3,none⟩])
 (.block 0
 ig))
 (.seq
 (.ops [
 ⟨(some 18),(.move (.tmp 1)),3,none⟩,
 ⟨(some 4),(.assign (.tmp 18)),3,none⟩])
 .ret))
theorem vN:Tryd.f73.body.map (CY lends)=some k73:=by kernel_rfl
theorem AC6:DR Tryd.f73 2=true:=by kernel_rfl
theorem c73{a l:List D}{r:D×List D}(h:Cu Y.env k73 (HZ Ak l.length [ResultVar.tmp 4] r) (entry a l))(ha:a.length=2):Y.call 73 a l=some r:=
 Ah (Y:=Y) rfl Tryd.func73 (ha▸AC6) vN h
def EL(k:Int)(k1:Int)(i:Int)(CW:List Int)(s:St):Prop:=(∃w_,s.v 0=D.vw [100000] (s.k 100000) w_)∧s.v 1=D.int .i64 k1∧s.v 5=D.int .i64 i∧s.v 100000=D.own 3 (AJ (D.int .i64) CW)
def FP(k:Int)(r:Int×(List Int))(ex:Ex)(s:St):Prop:=ex= .exit 0∧s.v 1=D.int .i64 r.1∧s.v 100000=D.own 3 (AJ (D.int .i64) r.2)
theorem Oh(k:Int){v:Int×Int×(List Int)}{s:St}{r:Int×(List Int)}(h:Ie k v=some r)(hM:EL k v.1 v.2.1 v.2.2 s):Cu Y.env ig (FP k r) s:=by
 unfold Ie at h
 refine DL (c:=Ut) (fun v=>EK k v.1 v.2.1 v.2.2) (fun v s=>EL k v.1 v.2.1 v.2.2 s) (FP k) ?_ h hM
 clear h hM s v r
 intro v s o hM h
 obtain⟨k1,i,CW⟩:=v
 dsimp only at h hM
 unfold EK at h
 unfold EL at hM
 obtain⟨⟨w0_,m0⟩,m1,m2,m3⟩:=hM
 unfold Ut
 by_cases e1:i<(CW.length:Int)
 ·rw [if_pos e1]at h
  obtain⟨e2,h⟩:=Cf h
  obtain rfl:=Option.some.inj h
  simp (maxDischargeDepth:=9) only [↓AL,AB,AO,Ao,AC,AP,Ap,↓reduceIte,Nat.reduceEqDiff,Nat.reduceLT,Nat.reduceLeDiff,Nat.reduceAdd,Nat.reduceMul,Nat.reduceMod,Nat.reduceDiv,Nat.reducePow,Nat.reduceSub,Nat.reduceBEq,Int.reduceLE,Int.reduceLT,Int.reduceEq,Int.reduceSub,Int.reduceAdd,Int.reduceToNat,Int.reduceNeg,m0,m1,m2,m3,e1,e2.1,e2.2,EL,FP,De,Df,Dh]<;>(repeat' apply And.intro)<;>first|rfl|exact⟨_,rfl⟩|exact⟨_,_,rfl⟩|simp [AJ,A7]
 ·rw [if_neg e1]at h
  obtain rfl:=Option.some.inj h
  simp (maxDischargeDepth:=9) only [↓AL,AB,AO,Ao,AC,AP,Ap,↓reduceIte,Nat.reduceEqDiff,Nat.reduceLT,Nat.reduceLeDiff,Nat.reduceAdd,Nat.reduceMul,Nat.reduceMod,Nat.reduceDiv,Nat.reducePow,Nat.reduceSub,Nat.reduceBEq,Int.reduceLE,Int.reduceLT,Int.reduceEq,Int.reduceSub,Int.reduceAdd,Int.reduceToNat,Int.reduceNeg,m0,m1,m2,m3,e1,EL,FP,De,Df,Dh]<;>(repeat' apply And.intro)<;>first|rfl|exact⟨_,rfl⟩|exact⟨_,_,rfl⟩|simp [AJ,A7]
theorem Pn(a:List Int)(k:Int){r:Int×(List Int)}(h:Ko a k=some r):Y.call 73 [D.vw [100000] 0 0,D.int .i64 k] [D.own 3 (AJ (D.int .i64) a)]=some (D.int .i64 r.1,[D.own 3 (AJ (D.int .i64) r.2)]):=by
 refine c73 ?_ rfl
 unfold k73
 unfold Ko at h
 obtain⟨AZ,hl2,h⟩:=BP h
 try dsimp only at h
 simp (maxDischargeDepth:=9) only [↓AL,AB,AO,Ao,AC,AP,Ap,↓reduceIte,Nat.reduceEqDiff,Nat.reduceLT,Nat.reduceLeDiff,Nat.reduceAdd,Nat.reduceMul,Nat.reduceMod,Nat.reduceDiv,Nat.reducePow,Nat.reduceSub,Nat.reduceBEq,Int.reduceLE,Int.reduceLT,Int.reduceEq,Int.reduceSub,Int.reduceAdd,Int.reduceToNat,Int.reduceNeg]
 refine C8 (Oh k hl2 ?_) ?_
 ·simp (maxDischargeDepth:=9) only [↓AL,AB,AO,Ao,AC,AP,Ap,↓reduceIte,Nat.reduceEqDiff,Nat.reduceLT,Nat.reduceLeDiff,Nat.reduceAdd,Nat.reduceMul,Nat.reduceMod,Nat.reduceDiv,Nat.reducePow,Nat.reduceSub,Nat.reduceBEq,Int.reduceLE,Int.reduceLT,Int.reduceEq,Int.reduceSub,Int.reduceAdd,Int.reduceToNat,Int.reduceNeg,EL]<;>(repeat' apply And.intro)<;>first|rfl|exact⟨_,rfl⟩|exact⟨_,_,rfl⟩|simp [AJ,A7]
 ·intro ex2 s2 hX2
  unfold FP at hX2
  obtain⟨rfl,n2_0,n2_1⟩:=hX2
  obtain rfl:=Option.some.inj h
  simp (maxDischargeDepth:=9) only [↓AL,AB,AO,Ao,AC,AP,Ap,↓reduceIte,Nat.reduceEqDiff,Nat.reduceLT,Nat.reduceLeDiff,Nat.reduceAdd,Nat.reduceMul,Nat.reduceMod,Nat.reduceDiv,Nat.reducePow,Nat.reduceSub,Nat.reduceBEq,Int.reduceLE,Int.reduceLT,Int.reduceEq,Int.reduceSub,Int.reduceAdd,Int.reduceToNat,Int.reduceNeg,n2_0,n2_1]<;>(repeat' apply And.intro)<;>first|rfl|exact⟨_,rfl⟩|exact⟨_,_,rfl⟩|simp [AJ,A7]
theorem Sd(a:List Int)(k:Int)(ha:a.length<1099511627776)(hk:0≤k∧k<1099511627776):Ko a k=some (k+a.length,Ip k a.length):=by
 have key:=JC (fun v=>EK k v.1 v.2.1 v.2.2) (fun i=>(k+i,(i:Int),Ip k i++a.drop i)) a.length (k+a.length,Ip k a.length) ?_ ?_
 ·unfold Ko Ie
  have e0:Ip k 0=[]:=rfl
  simp only [Int.natCast_zero,Int.add_zero,List.drop_zero,e0,List.nil_append]at key
  rw [key];rfl
 ·intro i hi
  simp only [EK]
  have el:(Ip k i++a.drop i).length=a.length:=by simp [KS];omega
  rw [el,if_pos (EJ hi),Cn (Hu hi),Int.toNat_natCast,iZ a k i hi,PV i (by omega),KQ _ (by omega)]
  rw [show k+(i:Int)+1=k+((i+1:Nat):Int) by omega]
 ·simp only [EK]
  have el:(Ip k a.length++a.drop a.length).length=a.length:=by simp [KS]
  rw [el,if_neg (Bq _)];simp
theorem Sg(a:List Int)(k:Int)(h0:a.length<1099511627776)(h1:0≤k∧k<1099511627776):Y.call 73 [D.vw [100000] 0 0,D.int .i64 k] [D.own 3 (AJ (D.int .i64) a)]=some (D.int .i64 (k+a.length),[D.own 3 (AJ (D.int .i64) (Ip k a.length))]):=Pn a k (Sd a k h0 h1)
def Dz:Int→List (List Int)→List (List Int)
 |_,[]=>[]
 |k,x::l=>Ip k x.length::Dz (k+x.length) l
noncomputable def El(k:Int)(k1:Int)(i:Int)(CW:List (List Int)):Option ((Int×Int×(List (List Int)))⊕(Int×(List (List Int)))):=
 if i<(CW.length:Int)then
  ck (0≤i∧i.toNat<CW.length)<|
  ck ((CW.getD i.toNat default).length<1099511627776)<|
  ck (0≤k1∧k1<1099511627776)<|
  some (Sum.inl ((k1+(CW.getD i.toNat default).length),IntKind.i64.wrap (i+1),(CW.set i.toNat (Ip k1 (CW.getD i.toNat default).length))))
 else
  some (Sum.inr (k1,CW))
noncomputable def En(k:Int)(v:Int×Int×(List (List Int))):Option (Int×(List (List Int))):=Jk (fun v=>El k v.1 v.2.1 v.2.2) v
noncomputable def Jp(a:List (List Int))(k:Int):Option (Int×(List (List Int))):=
 (En k (k,0,a)).bind fun AZ=>
 some (AZ.1,AZ.2)
def Uu:SC:=
 .seq
 (.seq
 (.ops [
 ⟨(some 6),(.move (.tmp 5)),3,none⟩,
 ⟨(some 7),(.move (.tmp 0)),34,none⟩,
 ⟨(some 8),(.call ⟨(.builtin .len), #[(.tmp 7)], #[34]⟩),3,none⟩,
 ⟨(some 9),(.binOp .lss 3 (.tmp 6) (.tmp 8) 3),4,none⟩])
 (.cond (.tmp 9)
 .skip
 (.exit 0)))
 (.seq
 (.block 1
 (.ops [
 ⟨(some 12),(.move (.tmp 0)),34,none⟩,
 ⟨(some 13),(.move (.tmp 5)),3,none⟩,
 ⟨(some 14),(.indexAddr 34 (.tmp 12) (.tmp 13)),0,none⟩,
 ⟨(some 15),(.load 70 (.tmp 14)),70,none⟩,
 ⟨(some 16),(.move (.tmp 1)),3,none⟩,
 ⟨(some 17),(.call ⟨(.value (.func 73)), #[(.tmp 15),(.tmp 16)], #[70,3]⟩),3,none⟩,
 ⟨(some 1),(.assign (.tmp 17)),3,none⟩]))
 (.ops [
 ⟨(some 10),(.move (.tmp 5)),3,none⟩,
 ⟨(some 11),(.binOp .add 3 (.tmp 10) (.const (.int .i64 1)) 3),3,none⟩,
 ⟨(some 5),(.assign (.tmp 11)),3,none⟩]))
def ik:SC:= .loop Uu
def k49:SC:=
 .seq
 (.ops [
 ⟨(some 4),(.assign (.const (.int .i64 0))),3,none⟩])
 (.seq
 (.seq
 (.ops [
 ⟨(some 5),(.assign (.const (.int .i64 0))),3,none⟩])
 (.block 0
 ik))
 (.seq
 (.ops [
 ⟨(some 18),(.move (.tmp 1)),3,none⟩,
 ⟨(some 4),(.assign (.tmp 18)),3,none⟩])
 .ret))
theorem vO:Tryd.f49.body.map (CY lends)=some k49:=by kernel_rfl
theorem AC8:DR Tryd.f49 2=true:=by kernel_rfl
theorem c49{a l:List D}{r:D×List D}(h:Cu Y.env k49 (HZ Ak l.length [ResultVar.tmp 4] r) (entry a l))(ha:a.length=2):Y.call 49 a l=some r:=
 Ah (Y:=Y) rfl Tryd.func49 (ha▸AC8) vO h
def Dn(k:Int)(k1:Int)(i:Int)(CW:List (List Int))(s:St):Prop:=(∃w_,s.v 0=D.vw [100000] (s.k 100000) w_)∧s.v 1=D.int .i64 k1∧s.v 5=D.int .i64 i∧s.v 100000=D.own 70 (AJ (fun x=>D.own 3 (AJ (D.int .i64) x)) CW)
def Eo(k:Int)(r:Int×(List (List Int)))(ex:Ex)(s:St):Prop:=ex= .exit 0∧s.v 1=D.int .i64 r.1∧s.v 100000=D.own 70 (AJ (fun x=>D.own 3 (AJ (D.int .i64) x)) r.2)
theorem O0(k:Int){v:Int×Int×(List (List Int))}{s:St}{r:Int×(List (List Int))}(h:En k v=some r)(hM:Dn k v.1 v.2.1 v.2.2 s):Cu Y.env ik (Eo k r) s:=by
 unfold En at h
 refine DL (c:=Uu) (fun v=>El k v.1 v.2.1 v.2.2) (fun v s=>Dn k v.1 v.2.1 v.2.2 s) (Eo k) ?_ h hM
 clear h hM s v r
 intro v s o hM h
 obtain⟨k1,i,CW⟩:=v
 dsimp only at h hM
 unfold El at h
 unfold Dn at hM
 obtain⟨⟨w0_,m0⟩,m1,m2,m3⟩:=hM
 unfold Uu
 by_cases e1:i<(CW.length:Int)
 ·rw [if_pos e1]at h
  obtain⟨e2,h⟩:=Cf h
  obtain⟨e3,h⟩:=Cf h
  obtain⟨e4,h⟩:=Cf h
  have c5:=Sg (CW.getD i.toNat default) k1 e3 e4
  obtain rfl:=Option.some.inj h
  simp (maxDischargeDepth:=9) only [↓AL,AB,AO,Ao,AC,AP,Ap,↓reduceIte,Nat.reduceEqDiff,Nat.reduceLT,Nat.reduceLeDiff,Nat.reduceAdd,Nat.reduceMul,Nat.reduceMod,Nat.reduceDiv,Nat.reducePow,Nat.reduceSub,Nat.reduceBEq,Int.reduceLE,Int.reduceLT,Int.reduceEq,Int.reduceSub,Int.reduceAdd,Int.reduceToNat,Int.reduceNeg,m0,m1,m2,m3,e1,e2.1,e2.2,e3,e4.1,e4.2,c5,Dn,Eo,De,Df,Dh]<;>(repeat' apply And.intro)<;>first|rfl|exact⟨_,rfl⟩|exact⟨_,_,rfl⟩|simp [AJ,A7]
 ·rw [if_neg e1]at h
  obtain rfl:=Option.some.inj h
  simp (maxDischargeDepth:=9) only [↓AL,AB,AO,Ao,AC,AP,Ap,↓reduceIte,Nat.reduceEqDiff,Nat.reduceLT,Nat.reduceLeDiff,Nat.reduceAdd,Nat.reduceMul,Nat.reduceMod,Nat.reduceDiv,Nat.reducePow,Nat.reduceSub,Nat.reduceBEq,Int.reduceLE,Int.reduceLT,Int.reduceEq,Int.reduceSub,Int.reduceAdd,Int.reduceToNat,Int.reduceNeg,m0,m1,m2,m3,e1,Dn,Eo,De,Df,Dh]<;>(repeat' apply And.intro)<;>first|rfl|exact⟨_,rfl⟩|exact⟨_,_,rfl⟩|simp [AJ,A7]
theorem Oi(a:List (List Int))(k:Int){r:Int×(List (List Int))}(h:Jp a k=some r):Y.call 49 [D.vw [100000] 0 0,D.int .i64 k] [D.own 70 (AJ (fun x=>D.own 3 (AJ (D.int .i64) x)) a)]=some (D.int .i64 r.1,[D.own 70 (AJ (fun x=>D.own 3 (AJ (D.int .i64) x)) r.2)]):=by
 refine c49 ?_ rfl
 unfold k49
 unfold Jp at h
 obtain⟨AZ,hl2,h⟩:=BP h
 try dsimp only at h
 simp (maxDischargeDepth:=9) only [↓AL,AB,AO,Ao,AC,AP,Ap,↓reduceIte,Nat.reduceEqDiff,Nat.reduceLT,Nat.reduceLeDiff,Nat.reduceAdd,Nat.reduceMul,Nat.reduceMod,Nat.reduceDiv,Nat.reducePow,Nat.reduceSub,Nat.reduceBEq,Int.reduceLE,Int.reduceLT,Int.reduceEq,Int.reduceSub,Int.reduceAdd,Int.reduceToNat,Int.reduceNeg]
 refine C8 (O0 k hl2 ?_) ?_
 ·simp (maxDischargeDepth:=9) only [↓AL,AB,AO,Ao,AC,AP,Ap,↓reduceIte,Nat.reduceEqDiff,Nat.reduceLT,Nat.reduceLeDiff,Nat.reduceAdd,Nat.reduceMul,Nat.reduceMod,Nat.reduceDiv,Nat.reducePow,Nat.reduceSub,Nat.reduceBEq,Int.reduceLE,Int.reduceLT,Int.reduceEq,Int.reduceSub,Int.reduceAdd,Int.reduceToNat,Int.reduceNeg,Dn]<;>(repeat' apply And.intro)<;>first|rfl|exact⟨_,rfl⟩|exact⟨_,_,rfl⟩|simp [AJ,A7]
 ·intro ex2 s2 hX2
  unfold Eo at hX2
  obtain⟨rfl,n2_0,n2_1⟩:=hX2
  obtain rfl:=Option.some.inj h
  simp (maxDischargeDepth:=9) only [↓AL,AB,AO,Ao,AC,AP,Ap,↓reduceIte,Nat.reduceEqDiff,Nat.reduceLT,Nat.reduceLeDiff,Nat.reduceAdd,Nat.reduceMul,Nat.reduceMod,Nat.reduceDiv,Nat.reducePow,Nat.reduceSub,Nat.reduceBEq,Int.reduceLE,Int.reduceLT,Int.reduceEq,Int.reduceSub,Int.reduceAdd,Int.reduceToNat,Int.reduceNeg,n2_0,n2_1]<;>(repeat' apply And.intro)<;>first|rfl|exact⟨_,rfl⟩|exact⟨_,_,rfl⟩|simp [AJ,A7]
theorem O1(kk:Int): ∀(b a:List (List Int)) (k:Int),BV b→a.length+b.length<1099511627776→0≤k→k+GU b<1099511627776→
  En kk (k,(a.length:Int),a++b)=some (k+GU b,a++Dz k b):=by
 intro b
 induction b with
 |nil=>
  intro a k hb hab hk hkt
  unfold En
  rw [FD (r:=(k,a++[]))]
  ·rw [ML,Int.add_zero];rfl
  ·simp only [El];rw [if_neg (Nz _)]
 |cons x b ih=>
  intro a k hb hab hk hkt
  rw [JZ]at hkt
  simp only [List.length_cons]at hab
  have hx:x.length<1099511627776:=hb.2 x (List.mem_cons_self ..)
  have ht:=EX b
  have:=ih (a++[Ip k x.length]) (k+x.length) ⟨by omega,fun y hy=>hb.2 y (List.mem_cons_of_mem _ hy)⟩ (by simp;omega) (by omega) (by omega)
  unfold En at this ⊢
  have eg:(a++x::b).getD (a.length:Int).toNat default=x:=by rw [Int.toNat_natCast];exact Dw a (x::b) a.length rfl (by simp)
  rw [JB (s':=(k+x.length,((a++[Ip k x.length]).length:Int),(a++[Ip k x.length])++b)),this]
  ·rw [JZ,show k+(x.length:Int)+GU b=k+(x.length+GU b) by omega]
   simp [Dz]
  ·simp only [El]
   rw [if_pos (NA ..),Cn (NB ..),Cn (by rw [eg];exact hx),Cn ⟨hk,by omega⟩,eg,PV _ (by omega),Int.toNat_natCast,List.set_append_right _ _ (Nat.le_refl _),Nat.sub_self,List.set_cons_zero]
   simp
theorem RI(a:List (List Int))(k:Int)(ha:BV a)(hk:0≤k∧k+GU a<1099511627776):Jp a k=some (k+GU a,Dz k a):=by
 unfold Jp
 have:=O1 k a [] k ha (by have:=ha.1;simp;omega) hk.1 hk.2
 simp only [List.length_nil,List.nil_append,Int.natCast_zero]at this
 rw [this];rfl
theorem Li(a:List (List Int))(k:Int)(h0:BV a)(h1:0≤k∧k+GU a<1099511627776):Y.call 49 [D.vw [100000] 0 0,D.int .i64 k] [D.own 70 (AJ (fun x=>D.own 3 (AJ (D.int .i64) x)) a)]=some (D.int .i64 (k+GU a),[D.own 70 (AJ (fun x=>D.own 3 (AJ (D.int .i64) x)) (Dz k a))]):=Oi a k (RI a k h0 h1)
def Km:Int→List Int→Int
 |k,[]=>k
 |k,x::l=>if x=k then Km (k+1) l else-1
noncomputable def EM(a:List Int)(k1:Int)(i:Int):Option ((Int×Int)⊕(Unit⊕Int)):=
 if i<(a.length:Int)then
  ck (0≤i∧i.toNat<a.length)<|
  if(a.getD i.toNat default)=k1 then
   some (Sum.inl (IntKind.i64.wrap (k1+1),IntKind.i64.wrap (i+1)))
  else
   some (Sum.inr (Sum.inl ()))
 else
  some (Sum.inr (Sum.inr k1))
noncomputable def EY(a:List Int)(v:Int×Int):Option (Unit⊕Int):=Jk (fun v=>EM a v.1 v.2) v
noncomputable def Kq(a:List Int)(k:Int):Option (Int):=
 (EY a (k,0)).bind fun AZ=>
 match AZ with
 | .inl q1000_=>
  some (-1)
 | .inr q1000_=>
  some q1000_
def Uv:SC:=
 .seq
 (.seq
 (.ops [
 ⟨(some 6),(.move (.tmp 5)),3,none⟩,
 ⟨(some 7),(.move (.tmp 0)),70,none⟩,
 ⟨(some 8),(.call ⟨(.builtin .len), #[(.tmp 7)], #[70]⟩),3,none⟩,
 ⟨(some 9),(.binOp .lss 3 (.tmp 6) (.tmp 8) 3),4,none⟩])
 (.cond (.tmp 9)
 .skip
 (.exit 0)))
 (.seq
 (.block 1
 (.seq
 (.seq
 (.ops [
 ⟨(some 12),(.move (.tmp 0)),70,none⟩,
 ⟨(some 13),(.move (.tmp 5)),3,none⟩,
 ⟨(some 14),(.indexAddr 70 (.tmp 12) (.tmp 13)),0,none⟩,
 ⟨(some 15),(.load 3 (.tmp 14)),3,none⟩,
 ⟨(some 16),(.move (.tmp 1)),3,none⟩,
 ⟨(some 17),(.binOp .neq 3 (.tmp 15) (.tmp 16) 3),4,none⟩])
 (.cond (.tmp 17)
 (.seq
 (.ops [
 ⟨(some 4),(.assign (.const (.int .i64 (-1)))),3,none⟩])
 .ret)
 .skip))
 (.ops [
 ⟨(some 18),(.move (.tmp 1)),3,none⟩,
 ⟨(some 19),(.binOp .add 3 (.tmp 18) (.const (.int .i64 1)) 3),3,none⟩,
 ⟨(some 1),(.assign (.tmp 19)),3,none⟩])))
 (.ops [
 ⟨(some 10),(.move (.tmp 5)),3,none⟩,
 ⟨(some 11),(.binOp .add 3 (.tmp 10) (.const (.int .i64 1)) 3),3,none⟩,
 ⟨(some 5),(.assign (.tmp 11)),3,none⟩]))
def il:SC:= .loop Uv
def k74:SC:=
 .seq
 (.ops [
 ⟨(some 4),(.assign (.const (.int .i64 0))),3,none⟩])
 (.seq
 (.seq
 (.ops [
 ⟨(some 5),(.assign (.const (.int .i64 0))),3,none⟩])
 (.block 0
 il))
 (.seq
 (.ops [
 ⟨(some 20),(.move (.tmp 1)),3,none⟩,
 ⟨(some 4),(.assign (.tmp 20)),3,none⟩])
 .ret))
theorem vP:Tryd.f74.body.map (CY lends)=some k74:=by kernel_rfl
theorem ACA:DR Tryd.f74 2=true:=by kernel_rfl
theorem c74{a l:List D}{r:D×List D}(h:Cu Y.env k74 (HZ Ak l.length [ResultVar.tmp 4] r) (entry a l))(ha:a.length=2):Y.call 74 a l=some r:=
 Ah (Y:=Y) rfl Tryd.func74 (ha▸ACA) vP h
def DW(a:List Int)(k1:Int)(i:Int)(s:St):Prop:=s.v 0=D.sl 3 (AJ (D.int .i64) a)∧s.v 1=D.int .i64 k1∧s.v 5=D.int .i64 i
def DX(a:List Int)(r:Unit⊕Int)(ex:Ex)(s:St):Prop:=match r with
 | .inl q=>ex= .ret∧s.v 4=D.int .i64 (-1)
 | .inr q=>ex= .exit 0∧s.v 1=D.int .i64 q
theorem Oj(a:List Int){v:Int×Int}{s:St}{r:Unit⊕Int}(h:EY a v=some r)(hM:DW a v.1 v.2 s):Cu Y.env il (DX a r) s:=by
 unfold EY at h
 refine DL (c:=Uv) (fun v=>EM a v.1 v.2) (fun v s=>DW a v.1 v.2 s) (DX a) ?_ h hM
 clear h hM s v r
 intro v s o hM h
 obtain⟨k1,i⟩:=v
 dsimp only at h hM
 unfold EM at h
 unfold DW at hM
 obtain⟨m0,m1,m2⟩:=hM
 unfold Uv
 by_cases e1:i<(a.length:Int)
 ·rw [if_pos e1]at h
  obtain⟨e2,h⟩:=Cf h
  by_cases e3:(a.getD i.toNat default)=k1
  ·rw [if_pos e3]at h
   obtain rfl:=Option.some.inj h
   simp (maxDischargeDepth:=9) only [↓AL,AB,AO,Ao,AC,AP,Ap,↓reduceIte,Nat.reduceEqDiff,Nat.reduceLT,Nat.reduceLeDiff,Nat.reduceAdd,Nat.reduceMul,Nat.reduceMod,Nat.reduceDiv,Nat.reducePow,Nat.reduceSub,Nat.reduceBEq,Int.reduceLE,Int.reduceLT,Int.reduceEq,Int.reduceSub,Int.reduceAdd,Int.reduceToNat,Int.reduceNeg,m0,m1,m2,e1,e2.1,e2.2,decide_eq_true e3,DW,DX,De,Df,Dh]<;>(repeat' apply And.intro)<;>first|rfl|exact⟨_,rfl⟩|exact⟨_,_,rfl⟩|simp [AJ,A7]
  ·rw [if_neg e3]at h
   obtain rfl:=Option.some.inj h
   simp (maxDischargeDepth:=9) only [↓AL,AB,AO,Ao,AC,AP,Ap,↓reduceIte,Nat.reduceEqDiff,Nat.reduceLT,Nat.reduceLeDiff,Nat.reduceAdd,Nat.reduceMul,Nat.reduceMod,Nat.reduceDiv,Nat.reducePow,Nat.reduceSub,Nat.reduceBEq,Int.reduceLE,Int.reduceLT,Int.reduceEq,Int.reduceSub,Int.reduceAdd,Int.reduceToNat,Int.reduceNeg,m0,m1,m2,e1,e2.1,e2.2,e3,DW,DX,De,Df,Dh]<;>(repeat' apply And.intro)<;>first|rfl|exact⟨_,rfl⟩|exact⟨_,_,rfl⟩|simp [AJ,A7]
 ·rw [if_neg e1]at h
  obtain rfl:=Option.some.inj h
  simp (maxDischargeDepth:=9) only [↓AL,AB,AO,Ao,AC,AP,Ap,↓reduceIte,Nat.reduceEqDiff,Nat.reduceLT,Nat.reduceLeDiff,Nat.reduceAdd,Nat.reduceMul,Nat.reduceMod,Nat.reduceDiv,Nat.reducePow,Nat.reduceSub,Nat.reduceBEq,Int.reduceLE,Int.reduceLT,Int.reduceEq,Int.reduceSub,Int.reduceAdd,Int.reduceToNat,Int.reduceNeg,m0,m1,m2,e1,DW,DX,De,Df,Dh]<;>(repeat' apply And.intro)<;>first|rfl|exact⟨_,rfl⟩|exact⟨_,_,rfl⟩|simp [AJ,A7]
theorem Po(a:List Int)(k:Int){r:Int}(h:Kq a k=some r):Y.call 74 [D.sl 3 (AJ (D.int .i64) a),D.int .i64 k] []=some (D.int .i64 r,[]):=by
 refine c74 ?_ rfl
 unfold k74
 unfold Kq at h
 obtain⟨AZ,hl2,h⟩:=BP h
 try dsimp only at h
 simp (maxDischargeDepth:=9) only [↓AL,AB,AO,Ao,AC,AP,Ap,↓reduceIte,Nat.reduceEqDiff,Nat.reduceLT,Nat.reduceLeDiff,Nat.reduceAdd,Nat.reduceMul,Nat.reduceMod,Nat.reduceDiv,Nat.reducePow,Nat.reduceSub,Nat.reduceBEq,Int.reduceLE,Int.reduceLT,Int.reduceEq,Int.reduceSub,Int.reduceAdd,Int.reduceToNat,Int.reduceNeg]
 refine C8 (Oj a hl2 ?_) ?_
 ·simp (maxDischargeDepth:=9) only [↓AL,AB,AO,Ao,AC,AP,Ap,↓reduceIte,Nat.reduceEqDiff,Nat.reduceLT,Nat.reduceLeDiff,Nat.reduceAdd,Nat.reduceMul,Nat.reduceMod,Nat.reduceDiv,Nat.reducePow,Nat.reduceSub,Nat.reduceBEq,Int.reduceLE,Int.reduceLT,Int.reduceEq,Int.reduceSub,Int.reduceAdd,Int.reduceToNat,Int.reduceNeg,DW]<;>(repeat' apply And.intro)<;>first|rfl|exact⟨_,rfl⟩|exact⟨_,_,rfl⟩|simp [AJ,A7]
 ·intro ex2 s2 hX2
  rcases AZ with q1000_|q1000_
  ·unfold DX at hX2
   dsimp only at hX2 h
   obtain⟨rfl,n2_0⟩:=hX2
   obtain rfl:=Option.some.inj h
   simp (maxDischargeDepth:=9) only [↓AL,AB,AO,Ao,AC,AP,Ap,↓reduceIte,Nat.reduceEqDiff,Nat.reduceLT,Nat.reduceLeDiff,Nat.reduceAdd,Nat.reduceMul,Nat.reduceMod,Nat.reduceDiv,Nat.reducePow,Nat.reduceSub,Nat.reduceBEq,Int.reduceLE,Int.reduceLT,Int.reduceEq,Int.reduceSub,Int.reduceAdd,Int.reduceToNat,Int.reduceNeg,n2_0]<;>(repeat' apply And.intro)<;>first|rfl|exact⟨_,rfl⟩|exact⟨_,_,rfl⟩|simp [AJ,A7]
  ·unfold DX at hX2
   dsimp only at hX2 h
   obtain⟨rfl,n2_0⟩:=hX2
   obtain rfl:=Option.some.inj h
   simp (maxDischargeDepth:=9) only [↓AL,AB,AO,Ao,AC,AP,Ap,↓reduceIte,Nat.reduceEqDiff,Nat.reduceLT,Nat.reduceLeDiff,Nat.reduceAdd,Nat.reduceMul,Nat.reduceMod,Nat.reduceDiv,Nat.reducePow,Nat.reduceSub,Nat.reduceBEq,Int.reduceLE,Int.reduceLT,Int.reduceEq,Int.reduceSub,Int.reduceAdd,Int.reduceToNat,Int.reduceNeg,n2_0]<;>(repeat' apply And.intro)<;>first|rfl|exact⟨_,rfl⟩|exact⟨_,_,rfl⟩|simp [AJ,A7]
theorem Ol: ∀(b a:List Int) (k:Int),a.length+b.length<1099511627776→0≤k→k+b.length<1099511627776→
  EY (a++b) (k,(a.length:Int))=some (if Km k b= -1 then .inl ()else .inr (Km k b)):=by
 intro b
 induction b with
 |nil=>
  intro a k hab hk hkt
  unfold EY
  rw [FD (r:=Sum.inr k)]
  ·unfold Km;rw [if_neg (by omega)]
  ·simp only [EM];rw [if_neg (Nz _)]
 |cons x b ih=>
  intro a k hab hk hkt
  simp only [List.length_cons]at hab hkt
  have eg:(a++x::b).getD (a.length:Int).toNat default=x:=by rw [Int.toNat_natCast];exact Dw a (x::b) a.length rfl (by simp)
  unfold Km
  by_cases hq:x=k
  ·rw [if_pos hq]
   have:=ih (a++[x]) (k+1) (by simp;omega) (by omega) (by omega)
   unfold EY at this ⊢
   rw [JB (s':=(k+1,((a++[x]).length:Int)))]
   ·rw [show a++x::b=a++[x]++b by simp];exact this
   ·simp only [EM]
    rw [if_pos (NA ..),Cn (NB ..),eg,if_pos hq,PV _ (by omega),KQ _ (by omega)];simp
  ·rw [if_neg hq]
   unfold EY
   rw [FD (r:=Sum.inl ())]
   ·rfl
   ·simp only [EM]
    rw [if_pos (NA ..),Cn (NB ..),eg,if_neg hq]
theorem Si(a:List Int)(k:Int)(ha:a.length<1099511627776)(hk:0≤k∧k+a.length<1099511627776):Kq a k=some (Km k a):=by
 unfold Kq
 have:=Ol a [] k (by simpa using ha) hk.1 hk.2
 simp only [List.length_nil,List.nil_append,Int.natCast_zero]at this
 rw [this,Option.bind_some]
 by_cases h:Km k a= -1
 ·rw [if_pos h,h]
 ·rw [if_neg h]
theorem Sj(a:List Int)(k:Int)(h0:a.length<1099511627776)(h1:0≤k∧k+a.length<1099511627776):Y.call 74 [D.sl 3 (AJ (D.int .i64) a),D.int .i64 k] []=some (D.int .i64 (Km k a),[]):=Po a k (Si a k h0 h1)
theorem cO(n:Nat): ∀k,Km k (Ip k n)=k+n:=by
 induction n with
 |zero=>intro k;simp [Ip,Km]
 |succ n ih=>
  intro k
  have e:Ip k (n+1)=k::Ip (k+1) n:=by
   simp only [Ip,List.range_succ_eq_map,List.map_cons,List.map_map]
   congr 1
   ·simp
   ·apply List.map_congr_left;intro i _;simp;omega
  rw [e,Km,if_pos rfl,ih];omega
noncomputable def Ep(a:List (List Int))(k1:Int)(i:Int):Option ((Int×Int)⊕(Unit⊕Int)):=
 if i<(a.length:Int)then
  ck (0≤i∧i.toNat<a.length)<|
  ck ((a.getD i.toNat default).length<1099511627776)<|
  ck (0≤k1∧k1+(a.getD i.toNat default).length<1099511627776)<|
  if(Km k1 (a.getD i.toNat default))<0 then
   some (Sum.inr (Sum.inl ()))
  else
   some (Sum.inl ((Km k1 (a.getD i.toNat default)),IntKind.i64.wrap (i+1)))
 else
  some (Sum.inr (Sum.inr k1))
noncomputable def Er(a:List (List Int))(v:Int×Int):Option (Unit⊕Int):=Jk (fun v=>Ep a v.1 v.2) v
noncomputable def H8(a:List (List Int))(k:Int):Option (Int):=
 (Er a (k,0)).bind fun AZ=>
 match AZ with
 | .inl q1000_=>
  some (-1)
 | .inr q1000_=>
  some q1000_
def Uw:SC:=
 .seq
 (.seq
 (.ops [
 ⟨(some 6),(.move (.tmp 5)),3,none⟩,
 ⟨(some 7),(.move (.tmp 0)),34,none⟩,
 ⟨(some 8),(.call ⟨(.builtin .len), #[(.tmp 7)], #[34]⟩),3,none⟩,
 ⟨(some 9),(.binOp .lss 3 (.tmp 6) (.tmp 8) 3),4,none⟩])
 (.cond (.tmp 9)
 .skip
 (.exit 0)))
 (.seq
 (.block 1
 (.seq
 (.ops [
 ⟨(some 12),(.move (.tmp 0)),34,none⟩,
 ⟨(some 13),(.move (.tmp 5)),3,none⟩,
 ⟨(some 14),(.indexAddr 34 (.tmp 12) (.tmp 13)),0,none⟩,
 ⟨(some 15),(.load 70 (.tmp 14)),70,none⟩,
 ⟨(some 16),(.move (.tmp 1)),3,none⟩,
 ⟨(some 17),(.call ⟨(.value (.func 74)), #[(.tmp 15),(.tmp 16)], #[70,3]⟩),3,none⟩,
 ⟨(some 1),(.assign (.tmp 17)),3,none⟩])
 (.seq
 (.ops [
 ⟨(some 18),(.move (.tmp 1)),3,none⟩,
 ⟨(some 19),(.binOp .lss 3 (.tmp 18) (.const (.int .i64 0)) 3),4,none⟩])
 (.cond (.tmp 19)
 (.seq
 (.ops [
 ⟨(some 4),(.assign (.const (.int .i64 (-1)))),3,none⟩])
 .ret)
 .skip))))
 (.ops [
 ⟨(some 10),(.move (.tmp 5)),3,none⟩,
 ⟨(some 11),(.binOp .add 3 (.tmp 10) (.const (.int .i64 1)) 3),3,none⟩,
 ⟨(some 5),(.assign (.tmp 11)),3,none⟩]))
def iq:SC:= .loop Uw
def k50:SC:=
 .seq
 (.ops [
 ⟨(some 4),(.assign (.const (.int .i64 0))),3,none⟩])
 (.seq
 (.seq
 (.ops [
 ⟨(some 5),(.assign (.const (.int .i64 0))),3,none⟩])
 (.block 0
 iq))
 (.seq
 (.ops [
 ⟨(some 20),(.move (.tmp 1)),3,none⟩,
 ⟨(some 4),(.assign (.tmp 20)),3,none⟩])
 .ret))
theorem vQ:Tryd.f50.body.map (CY lends)=some k50:=by kernel_rfl
theorem ACC:DR Tryd.f50 2=true:=by kernel_rfl
theorem c50{a l:List D}{r:D×List D}(h:Cu Y.env k50 (HZ Ak l.length [ResultVar.tmp 4] r) (entry a l))(ha:a.length=2):Y.call 50 a l=some r:=
 Ah (Y:=Y) rfl Tryd.func50 (ha▸ACC) vQ h
def Cy(a:List (List Int))(k1:Int)(i:Int)(s:St):Prop:=s.v 0=D.sl 70 (AJ (fun x=>D.sl 3 (AJ (D.int .i64) x)) a)∧s.v 1=D.int .i64 k1∧s.v 5=D.int .i64 i
def Cz(a:List (List Int))(r:Unit⊕Int)(ex:Ex)(s:St):Prop:=match r with
 | .inl q=>ex= .ret∧s.v 4=D.int .i64 (-1)
 | .inr q=>ex= .exit 0∧s.v 1=D.int .i64 q
theorem O3(a:List (List Int)){v:Int×Int}{s:St}{r:Unit⊕Int}(h:Er a v=some r)(hM:Cy a v.1 v.2 s):Cu Y.env iq (Cz a r) s:=by
 unfold Er at h
 refine DL (c:=Uw) (fun v=>Ep a v.1 v.2) (fun v s=>Cy a v.1 v.2 s) (Cz a) ?_ h hM
 clear h hM s v r
 intro v s o hM h
 obtain⟨k1,i⟩:=v
 dsimp only at h hM
 unfold Ep at h
 unfold Cy at hM
 obtain⟨m0,m1,m2⟩:=hM
 unfold Uw
 by_cases e1:i<(a.length:Int)
 ·rw [if_pos e1]at h
  obtain⟨e2,h⟩:=Cf h
  obtain⟨e3,h⟩:=Cf h
  obtain⟨e4,h⟩:=Cf h
  have c5:=Sj (a.getD i.toNat default) k1 e3 e4
  by_cases e6:(Km k1 (a.getD i.toNat default))<0
  ·rw [if_pos e6]at h
   obtain rfl:=Option.some.inj h
   simp (maxDischargeDepth:=9) only [↓AL,AB,AO,Ao,AC,AP,Ap,↓reduceIte,Nat.reduceEqDiff,Nat.reduceLT,Nat.reduceLeDiff,Nat.reduceAdd,Nat.reduceMul,Nat.reduceMod,Nat.reduceDiv,Nat.reducePow,Nat.reduceSub,Nat.reduceBEq,Int.reduceLE,Int.reduceLT,Int.reduceEq,Int.reduceSub,Int.reduceAdd,Int.reduceToNat,Int.reduceNeg,m0,m1,m2,e1,e2.1,e2.2,e3,e4.1,e4.2,c5,e6,Cy,Cz,De,Df,Dh]<;>(repeat' apply And.intro)<;>first|rfl|exact⟨_,rfl⟩|exact⟨_,_,rfl⟩|simp [AJ,A7]
  ·rw [if_neg e6]at h
   obtain rfl:=Option.some.inj h
   simp (maxDischargeDepth:=9) only [↓AL,AB,AO,Ao,AC,AP,Ap,↓reduceIte,Nat.reduceEqDiff,Nat.reduceLT,Nat.reduceLeDiff,Nat.reduceAdd,Nat.reduceMul,Nat.reduceMod,Nat.reduceDiv,Nat.reducePow,Nat.reduceSub,Nat.reduceBEq,Int.reduceLE,Int.reduceLT,Int.reduceEq,Int.reduceSub,Int.reduceAdd,Int.reduceToNat,Int.reduceNeg,m0,m1,m2,e1,e2.1,e2.2,e3,e4.1,e4.2,c5,e6,Cy,Cz,De,Df,Dh]<;>(repeat' apply And.intro)<;>first|rfl|exact⟨_,rfl⟩|exact⟨_,_,rfl⟩|simp [AJ,A7]
 ·rw [if_neg e1]at h
  obtain rfl:=Option.some.inj h
  simp (maxDischargeDepth:=9) only [↓AL,AB,AO,Ao,AC,AP,Ap,↓reduceIte,Nat.reduceEqDiff,Nat.reduceLT,Nat.reduceLeDiff,Nat.reduceAdd,Nat.reduceMul,Nat.reduceMod,Nat.reduceDiv,Nat.reducePow,Nat.reduceSub,Nat.reduceBEq,Int.reduceLE,Int.reduceLT,Int.reduceEq,Int.reduceSub,Int.reduceAdd,Int.reduceToNat,Int.reduceNeg,m0,m1,m2,e1,Cy,Cz,De,Df,Dh]<;>(repeat' apply And.intro)<;>first|rfl|exact⟨_,rfl⟩|exact⟨_,_,rfl⟩|simp [AJ,A7]
theorem KT(a:List (List Int))(k:Int){r:Int}(h:H8 a k=some r):Y.call 50 [D.sl 70 (AJ (fun x=>D.sl 3 (AJ (D.int .i64) x)) a),D.int .i64 k] []=some (D.int .i64 r,[]):=by
 refine c50 ?_ rfl
 unfold k50
 unfold H8 at h
 obtain⟨AZ,hl2,h⟩:=BP h
 try dsimp only at h
 simp (maxDischargeDepth:=9) only [↓AL,AB,AO,Ao,AC,AP,Ap,↓reduceIte,Nat.reduceEqDiff,Nat.reduceLT,Nat.reduceLeDiff,Nat.reduceAdd,Nat.reduceMul,Nat.reduceMod,Nat.reduceDiv,Nat.reducePow,Nat.reduceSub,Nat.reduceBEq,Int.reduceLE,Int.reduceLT,Int.reduceEq,Int.reduceSub,Int.reduceAdd,Int.reduceToNat,Int.reduceNeg]
 refine C8 (O3 a hl2 ?_) ?_
 ·simp (maxDischargeDepth:=9) only [↓AL,AB,AO,Ao,AC,AP,Ap,↓reduceIte,Nat.reduceEqDiff,Nat.reduceLT,Nat.reduceLeDiff,Nat.reduceAdd,Nat.reduceMul,Nat.reduceMod,Nat.reduceDiv,Nat.reducePow,Nat.reduceSub,Nat.reduceBEq,Int.reduceLE,Int.reduceLT,Int.reduceEq,Int.reduceSub,Int.reduceAdd,Int.reduceToNat,Int.reduceNeg,Cy]<;>(repeat' apply And.intro)<;>first|rfl|exact⟨_,rfl⟩|exact⟨_,_,rfl⟩|simp [AJ,A7]
 ·intro ex2 s2 hX2
  rcases AZ with q1000_|q1000_
  ·unfold Cz at hX2
   dsimp only at hX2 h
   obtain⟨rfl,n2_0⟩:=hX2
   obtain rfl:=Option.some.inj h
   simp (maxDischargeDepth:=9) only [↓AL,AB,AO,Ao,AC,AP,Ap,↓reduceIte,Nat.reduceEqDiff,Nat.reduceLT,Nat.reduceLeDiff,Nat.reduceAdd,Nat.reduceMul,Nat.reduceMod,Nat.reduceDiv,Nat.reducePow,Nat.reduceSub,Nat.reduceBEq,Int.reduceLE,Int.reduceLT,Int.reduceEq,Int.reduceSub,Int.reduceAdd,Int.reduceToNat,Int.reduceNeg,n2_0]<;>(repeat' apply And.intro)<;>first|rfl|exact⟨_,rfl⟩|exact⟨_,_,rfl⟩|simp [AJ,A7]
  ·unfold Cz at hX2
   dsimp only at hX2 h
   obtain⟨rfl,n2_0⟩:=hX2
   obtain rfl:=Option.some.inj h
   simp (maxDischargeDepth:=9) only [↓AL,AB,AO,Ao,AC,AP,Ap,↓reduceIte,Nat.reduceEqDiff,Nat.reduceLT,Nat.reduceLeDiff,Nat.reduceAdd,Nat.reduceMul,Nat.reduceMod,Nat.reduceDiv,Nat.reducePow,Nat.reduceSub,Nat.reduceBEq,Int.reduceLE,Int.reduceLT,Int.reduceEq,Int.reduceSub,Int.reduceAdd,Int.reduceToNat,Int.reduceNeg,n2_0]<;>(repeat' apply And.intro)<;>first|rfl|exact⟨_,rfl⟩|exact⟨_,_,rfl⟩|simp [AJ,A7]
theorem O4: ∀(b a:List (List Int)) (k:Int),BV b→a.length+b.length<1099511627776→0≤k→k+GU b<1099511627776→
  Er (a++Dz k b) (k,(a.length:Int))=some (.inr (k+GU b)):=by
 intro b
 induction b with
 |nil=>
  intro a k hb hab hk hkt
  unfold Er
  rw [FD (r:=Sum.inr k)]
  ·rw [ML,Int.add_zero]
  ·rw [show Dz k []=[]from rfl];simp only [Ep];rw [if_neg (Nz _)]
 |cons x b ih=>
  intro a k hb hab hk hkt
  rw [JZ]at hkt
  simp only [List.length_cons]at hab
  have hx:x.length<1099511627776:=hb.2 x (List.mem_cons_self ..)
  have ht:=EX b
  have:=ih (a++[Ip k x.length]) (k+x.length) ⟨by omega,fun y hy=>hb.2 y (List.mem_cons_of_mem _ hy)⟩ (by simp;omega) (by omega) (by omega)
  unfold Er at this ⊢
  have eg:(a++Dz k (x::b)).getD (a.length:Int).toNat default=Ip k x.length:=by rw [Int.toNat_natCast];exact Dw a (Dz k (x::b)) a.length rfl (by simp [Dz])
  rw [JB (s':=(k+x.length,((a++[Ip k x.length]).length:Int)))]
  ·rw [show a++Dz k (x::b)=a++[Ip k x.length]++Dz (k+x.length) b by simp [Dz],this,JZ]
   rw [show k+(x.length:Int)+GU b=k+(x.length+GU b) by omega]
  ·simp only [Ep]
   rw [Dz]at eg ⊢
   rw [if_pos (NA ..),Cn (NB ..),Cn (by rw [eg,KS];exact hx),Cn (by rw [eg,KS];omega),eg,cO,if_neg (by omega),PV _ (by omega)];simp
theorem Lj(a:List (List Int))(k:Int)(ha:BV a)(hk:0≤k∧k+GU a<1099511627776):H8 (Dz k a) k=some (k+GU a):=by
 unfold H8
 have:=O4 a [] k ha (by have:=ha.1;simp;omega) hk.1 hk.2
 simp only [List.length_nil,List.nil_append,Int.natCast_zero]at this
 rw [this];rfl
end Go.Proofs.YtaogbcdlpgfplaaDoor
