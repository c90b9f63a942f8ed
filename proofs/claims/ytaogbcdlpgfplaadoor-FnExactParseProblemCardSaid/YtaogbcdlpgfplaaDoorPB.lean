/- Problems copied, compared, measured and marked, as plain functions. Conditions: the lists are short. -/
import Derived.Test.YtaogbcdlpgfplaaDoorL6
import Derived.Test.YtaogbcdlpgfplaaDoorBase
namespace Go.Proofs.YtaogbcdlpgfplaaDoor
open Go Dv
set_option linter.unusedSimpArgs false
set_option linter.unusedVariables false
set_option maxRecDepth 100000
set_option maxHeartbeats 4000000
noncomputable def Jq(CL:Int)(CO:Int)(BM:List (List Int))(BS:List (List Int))(Gg:Int)(Gh:Int)(Gt:List (List Int))(Gu:List (List Int)):Option (Bool):=
 if CL=Gg then
  if CO=Gh then
   ck (BV BM)<|
   if(decide (BM=Gt))=true then
    ck (BV BS)<|
    if(decide (BS=Gu))=true then
     some true
    else
     some false
   else
    some false
  else
   some false
 else
  some false
def k20:SC:=
 .seq
 (.ops [
 ⟨(some 2),(.box 39 (.tmp 0)),0,none⟩,
 ⟨(some 3),(.box 39 (.tmp 1)),0,none⟩,
 ⟨(some 4),(.assign (.const (.bool false))),4,none⟩])
 (.seq
 (.seq
 (.ops [
 ⟨(some 5),(.fieldAddr 39 (.tmp 2) 0),0,none⟩,
 ⟨(some 6),(.load 3 (.tmp 5)),3,none⟩,
 ⟨(some 7),(.fieldAddr 39 (.tmp 3) 0),0,none⟩,
 ⟨(some 8),(.load 3 (.tmp 7)),3,none⟩,
 ⟨(some 9),(.binOp .neq 3 (.tmp 6) (.tmp 8) 3),4,none⟩])
 (.cond (.tmp 9)
 (.seq
 (.ops [
 ⟨(some 4),(.assign (.const (.bool false))),4,none⟩])
 .ret)
 .skip))
 (.seq
 (.seq
 (.ops [
 ⟨(some 10),(.fieldAddr 39 (.tmp 2) 1),0,none⟩,
 ⟨(some 11),(.load 3 (.tmp 10)),3,none⟩,
 ⟨(some 12),(.fieldAddr 39 (.tmp 3) 1),0,none⟩,
 ⟨(some 13),(.load 3 (.tmp 12)),3,none⟩,
 ⟨(some 14),(.binOp .neq 3 (.tmp 11) (.tmp 13) 3),4,none⟩])
 (.cond (.tmp 14)
 (.seq
 (.ops [
 ⟨(some 4),(.assign (.const (.bool false))),4,none⟩])
 .ret)
 .skip))
 (.seq
 (.seq
 (.ops [
 ⟨(some 15),(.fieldAddr 39 (.tmp 2) 2),0,none⟩,
 ⟨(some 16),(.load 34 (.tmp 15)),34,none⟩,
 ⟨(some 17),(.fieldAddr 39 (.tmp 3) 2),0,none⟩,
 ⟨(some 18),(.load 34 (.tmp 17)),34,none⟩,
 ⟨(some 19),(.call ⟨(.value (.func 45)), #[(.tmp 16),(.tmp 18)], #[34,34]⟩),4,none⟩,
 ⟨(some 20),(.unOp .not 4 (.tmp 19)),4,none⟩])
 (.cond (.tmp 20)
 (.seq
 (.ops [
 ⟨(some 4),(.assign (.const (.bool false))),4,none⟩])
 .ret)
 .skip))
 (.seq
 (.seq
 (.ops [
 ⟨(some 21),(.fieldAddr 39 (.tmp 2) 3),0,none⟩,
 ⟨(some 22),(.load 34 (.tmp 21)),34,none⟩,
 ⟨(some 23),(.fieldAddr 39 (.tmp 3) 3),0,none⟩,
 ⟨(some 24),(.load 34 (.tmp 23)),34,none⟩,
 ⟨(some 25),(.call ⟨(.value (.func 45)), #[(.tmp 22),(.tmp 24)], #[34,34]⟩),4,none⟩,
 ⟨(some 26),(.unOp .not 4 (.tmp 25)),4,none⟩])
 (.cond (.tmp 26)
 (.seq
 (.ops [
 ⟨(some 4),(.assign (.const (.bool false))),4,none⟩])
 .ret)
 .skip))
 (.seq
 (.ops [
 ⟨(some 4),(.assign (.const (.bool true))),4,none⟩])
 .ret)))))
theorem vR:Tryd.f20.body.map (CY lends)=some k20:=by kernel_rfl
theorem ACE:DR Tryd.f20 2=true:=by kernel_rfl
theorem c20{a l:List D}{r:D×List D}(h:Cu Y.env k20 (HZ Ak l.length [ResultVar.tmp 4] r) (entry a l))(ha:a.length=2):Y.call 20 a l=some r:=
 Ah (Y:=Y) rfl Tryd.func20 (ha▸ACE) vR h
theorem Om(CL:Int)(CO:Int)(BM:List (List Int))(BS:List (List Int))(Gg:Int)(Gh:Int)(Gt:List (List Int))(Gu:List (List Int)){r:Bool}(h:Jq CL CO BM BS Gg Gh Gt Gu=some r):Y.call 20 [D.agg [D.int .i64 CL,D.int .i64 CO,D.sl 70 (AJ (fun x=>D.sl 3 (AJ (D.int .i64) x)) BM),D.sl 70 (AJ (fun x=>D.sl 3 (AJ (D.int .i64) x)) BS)],D.agg [D.int .i64 Gg,D.int .i64 Gh,D.sl 70 (AJ (fun x=>D.sl 3 (AJ (D.int .i64) x)) Gt),D.sl 70 (AJ (fun x=>D.sl 3 (AJ (D.int .i64) x)) Gu)]] []=some (D.bool r,[]):=by
 refine c20 ?_ rfl
 unfold k20
 unfold Jq at h
 by_cases e1:CL=Gg
 ·rw [if_pos e1]at h
  by_cases e2:CO=Gh
  ·rw [if_pos e2]at h
   obtain⟨e3,h⟩:=Cf h
   have c4:=Ny BM Gt e3
   by_cases e5:(decide (BM=Gt))=true
   ·rw [if_pos e5]at h
    obtain⟨e6,h⟩:=Cf h
    have c7:=Ny BS Gu e6
    by_cases e8:(decide (BS=Gu))=true
    ·rw [if_pos e8]at h
     obtain rfl:=Option.some.inj h
     simp (maxDischargeDepth:=9) only [↓AL,AB,AO,Ao,AC,AP,Ap,↓reduceIte,Nat.reduceEqDiff,Nat.reduceLT,Nat.reduceLeDiff,Nat.reduceAdd,Nat.reduceMul,Nat.reduceMod,Nat.reduceDiv,Nat.reducePow,Nat.reduceSub,Nat.reduceBEq,Int.reduceLE,Int.reduceLT,Int.reduceEq,Int.reduceSub,Int.reduceAdd,Int.reduceToNat,Int.reduceNeg,decide_eq_true e1,decide_eq_true e2,e3,c4,e5,e6,c7,e8]<;>(repeat' apply And.intro)<;>first|rfl|exact⟨_,rfl⟩|exact⟨_,_,rfl⟩|simp [AJ,A7]
    ·rw [if_neg e8]at h
     have e8f:(decide (BS=Gu))=false:=Bool.eq_false_iff.mpr e8
     obtain rfl:=Option.some.inj h
     simp (maxDischargeDepth:=9) only [↓AL,AB,AO,Ao,AC,AP,Ap,↓reduceIte,Nat.reduceEqDiff,Nat.reduceLT,Nat.reduceLeDiff,Nat.reduceAdd,Nat.reduceMul,Nat.reduceMod,Nat.reduceDiv,Nat.reducePow,Nat.reduceSub,Nat.reduceBEq,Int.reduceLE,Int.reduceLT,Int.reduceEq,Int.reduceSub,Int.reduceAdd,Int.reduceToNat,Int.reduceNeg,decide_eq_true e1,decide_eq_true e2,e3,c4,e5,e6,c7,e8f]<;>(repeat' apply And.intro)<;>first|rfl|exact⟨_,rfl⟩|exact⟨_,_,rfl⟩|simp [AJ,A7]
   ·rw [if_neg e5]at h
    have e5f:(decide (BM=Gt))=false:=Bool.eq_false_iff.mpr e5
    obtain rfl:=Option.some.inj h
    simp (maxDischargeDepth:=9) only [↓AL,AB,AO,Ao,AC,AP,Ap,↓reduceIte,Nat.reduceEqDiff,Nat.reduceLT,Nat.reduceLeDiff,Nat.reduceAdd,Nat.reduceMul,Nat.reduceMod,Nat.reduceDiv,Nat.reducePow,Nat.reduceSub,Nat.reduceBEq,Int.reduceLE,Int.reduceLT,Int.reduceEq,Int.reduceSub,Int.reduceAdd,Int.reduceToNat,Int.reduceNeg,decide_eq_true e1,decide_eq_true e2,e3,c4,e5f]<;>(repeat' apply And.intro)<;>first|rfl|exact⟨_,rfl⟩|exact⟨_,_,rfl⟩|simp [AJ,A7]
  ·rw [if_neg e2]at h
   obtain rfl:=Option.some.inj h
   simp (maxDischargeDepth:=9) only [↓AL,AB,AO,Ao,AC,AP,Ap,↓reduceIte,Nat.reduceEqDiff,Nat.reduceLT,Nat.reduceLeDiff,Nat.reduceAdd,Nat.reduceMul,Nat.reduceMod,Nat.reduceDiv,Nat.reducePow,Nat.reduceSub,Nat.reduceBEq,Int.reduceLE,Int.reduceLT,Int.reduceEq,Int.reduceSub,Int.reduceAdd,Int.reduceToNat,Int.reduceNeg,decide_eq_true e1,e2]<;>(repeat' apply And.intro)<;>first|rfl|exact⟨_,rfl⟩|exact⟨_,_,rfl⟩|simp [AJ,A7]
 ·rw [if_neg e1]at h
  obtain rfl:=Option.some.inj h
  simp (maxDischargeDepth:=9) only [↓AL,AB,AO,Ao,AC,AP,Ap,↓reduceIte,Nat.reduceEqDiff,Nat.reduceLT,Nat.reduceLeDiff,Nat.reduceAdd,Nat.reduceMul,Nat.reduceMod,Nat.reduceDiv,Nat.reducePow,Nat.reduceSub,Nat.reduceBEq,Int.reduceLE,Int.reduceLT,Int.reduceEq,Int.reduceSub,Int.reduceAdd,Int.reduceToNat,Int.reduceNeg,e1]<;>(repeat' apply And.intro)<;>first|rfl|exact⟨_,rfl⟩|exact⟨_,_,rfl⟩|simp [AJ,A7]
def PW(a b:Int)(n e:List (List Int))(a' b':Int)(n' e':List (List Int)):Bool:=decide (a=a'∧b=b'∧n=n'∧e=e')
theorem Z6(a b:Int)(n e:List (List Int)):PW a b n e a b n e=true:=by simp [PW]
theorem RJ(a b:Int)(n e:List (List Int))(a' b':Int)(n' e':List (List Int))(hn:BV n)(he:BV e):Jq a b n e a' b' n' e'=some (PW a b n e a' b' n' e'):=by
 unfold Jq PW
 by_cases h1:a=a'<;>by_cases h2:b=b'<;>by_cases h3:n=n'<;>by_cases h4:e=e'<;>simp [h1,h2,h3,h4,ck]<;>(try subst h3)<;>(try subst h4)<;>simp_all
theorem Ja(CL:Int)(CO:Int)(BM:List (List Int))(BS:List (List Int))(Gg:Int)(Gh:Int)(Gt:List (List Int))(Gu:List (List Int))(h0:BV BM)(h1:BV BS):Y.call 20 [D.agg [D.int .i64 CL,D.int .i64 CO,D.sl 70 (AJ (fun x=>D.sl 3 (AJ (D.int .i64) x)) BM),D.sl 70 (AJ (fun x=>D.sl 3 (AJ (D.int .i64) x)) BS)],D.agg [D.int .i64 Gg,D.int .i64 Gh,D.sl 70 (AJ (fun x=>D.sl 3 (AJ (D.int .i64) x)) Gt),D.sl 70 (AJ (fun x=>D.sl 3 (AJ (D.int .i64) x)) Gu)]] []=some (D.bool (PW CL CO BM BS Gg Gh Gt Gu),[]):=Om CL CO BM BS Gg Gh Gt Gu (RJ CL CO BM BS Gg Gh Gt Gu h0 h1)
noncomputable def Ig(CL:Int)(CO:Int)(BM:List (List Int))(BS:List (List Int))(k:Int):Option (Int×(List (List Int))×(List (List Int))):=
 ck (BV BM)<|
 ck (0≤k∧k+GU BM<1099511627776)<|
 ck (BV BS)<|
 ck (0≤(k+GU BM)∧(k+GU BM)+GU BS<1099511627776)<|
 some (((k+GU BM)+GU BS),(Dz k BM),(Dz (k+GU BM) BS))
def k23:SC:=
 .seq
 (.ops [
 ⟨(some 2),(.box 39 (.tmp 0)),0,none⟩,
 ⟨(some 4),(.assign (.const (.int .i64 0))),3,none⟩])
 (.seq
 (.ops [
 ⟨(some 5),(.fieldAddr 39 (.tmp 2) 2),0,none⟩,
 ⟨(some 6),(.load 34 (.tmp 5)),34,none⟩,
 ⟨(some 7),(.move (.tmp 1)),3,none⟩,
 ⟨(some 8),(.call ⟨(.value (.func 49)), #[(.tmp 6),(.tmp 7)], #[34,3]⟩),3,none⟩,
 ⟨(some 1),(.assign (.tmp 8)),3,none⟩])
 (.seq
 (.ops [
 ⟨(some 9),(.fieldAddr 39 (.tmp 2) 3),0,none⟩,
 ⟨(some 10),(.load 34 (.tmp 9)),34,none⟩,
 ⟨(some 11),(.move (.tmp 1)),3,none⟩,
 ⟨(some 12),(.call ⟨(.value (.func 49)), #[(.tmp 10),(.tmp 11)], #[34,3]⟩),3,none⟩,
 ⟨(some 1),(.assign (.tmp 12)),3,none⟩])
 (.seq
 (.ops [
 ⟨(some 13),(.move (.tmp 1)),3,none⟩,
 ⟨(some 4),(.assign (.tmp 13)),3,none⟩])
 .ret)))
theorem vS:Tryd.f23.body.map (CY lends)=some k23:=by kernel_rfl
theorem ACG:DR Tryd.f23 2=true:=by kernel_rfl
theorem c23{a l:List D}{r:D×List D}(h:Cu Y.env k23 (HZ Ak l.length [ResultVar.tmp 4] r) (entry a l))(ha:a.length=2):Y.call 23 a l=some r:=
 Ah (Y:=Y) rfl Tryd.func23 (ha▸ACG) vS h
theorem NC(CL:Int)(CO:Int)(BM:List (List Int))(BS:List (List Int))(k:Int){r:Int×(List (List Int))×(List (List Int))}(h:Ig CL CO BM BS k=some r):Y.call 23 [D.agg [D.int .i64 CL,D.int .i64 CO,D.vw [100000] 0 0,D.vw [100001] 0 0],D.int .i64 k] [D.own 70 (AJ (fun x=>D.own 3 (AJ (D.int .i64) x)) BM),D.own 70 (AJ (fun x=>D.own 3 (AJ (D.int .i64) x)) BS)]=some (D.int .i64 r.1,[D.own 70 (AJ (fun x=>D.own 3 (AJ (D.int .i64) x)) r.2.1),D.own 70 (AJ (fun x=>D.own 3 (AJ (D.int .i64) x)) r.2.2)]):=by
 refine c23 ?_ rfl
 unfold k23
 unfold Ig at h
 obtain⟨e1,h⟩:=Cf h
 obtain⟨e2,h⟩:=Cf h
 have c3:=Li BM k e1 e2
 obtain⟨e4,h⟩:=Cf h
 obtain⟨e5,h⟩:=Cf h
 have c6:=Li BS (k+GU BM) e4 e5
 obtain rfl:=Option.some.inj h
 simp (maxDischargeDepth:=9) only [↓AL,AB,AO,Ao,AC,AP,Ap,↓reduceIte,Nat.reduceEqDiff,Nat.reduceLT,Nat.reduceLeDiff,Nat.reduceAdd,Nat.reduceMul,Nat.reduceMod,Nat.reduceDiv,Nat.reducePow,Nat.reduceSub,Nat.reduceBEq,Int.reduceLE,Int.reduceLT,Int.reduceEq,Int.reduceSub,Int.reduceAdd,Int.reduceToNat,Int.reduceNeg,e1,e2.1,e2.2,c3,e4,e5.1,e5.2,c6]<;>(repeat' apply And.intro)<;>first|rfl|exact⟨_,rfl⟩|exact⟨_,_,rfl⟩|simp [AJ,A7]
theorem Oo(a b:Int)(n e:List (List Int))(k:Int)(hn:BV n)(he:BV e)(hk:0≤k∧k+GU n+GU e<1099511627776):Ig a b n e k=some (k+GU n+GU e,Dz k n,Dz (k+GU n) e):=by
 have h1:=EX n
 have h2:=EX e
 unfold Ig
 rw [Cn hn,Cn (by omega),Cn he,Cn (by omega)]
theorem KU(CL:Int)(CO:Int)(BM:List (List Int))(BS:List (List Int))(k:Int)(h0:BV BM)(h1:BV BS)(h2:0≤k∧k+GU BM+GU BS<1099511627776):Y.call 23 [D.agg [D.int .i64 CL,D.int .i64 CO,D.vw [100000] 0 0,D.vw [100001] 0 0],D.int .i64 k] [D.own 70 (AJ (fun x=>D.own 3 (AJ (D.int .i64) x)) BM),D.own 70 (AJ (fun x=>D.own 3 (AJ (D.int .i64) x)) BS)]=some (D.int .i64 (k+GU BM+GU BS),[D.own 70 (AJ (fun x=>D.own 3 (AJ (D.int .i64) x)) (Dz k BM)),D.own 70 (AJ (fun x=>D.own 3 (AJ (D.int .i64) x)) (Dz (k+GU BM) BS))]):=NC CL CO BM BS k (Oo CL CO BM BS k h0 h1 h2)
noncomputable def FV(CL:Int)(CO:Int)(BM:List (List Int))(BS:List (List Int))(k:Int):Option (Int):=
 (H8 BM k).bind fun Oq=>
 if Oq<0 then
  some (-1)
 else
  (H8 BS Oq).bind fun DY=>
  if DY<0 then
   some (-1)
  else
   some DY
def k24:SC:=
 .seq
 (.ops [
 ⟨(some 2),(.box 39 (.tmp 0)),0,none⟩,
 ⟨(some 4),(.assign (.const (.int .i64 0))),3,none⟩])
 (.seq
 (.ops [
 ⟨(some 5),(.fieldAddr 39 (.tmp 2) 2),0,none⟩,
 ⟨(some 6),(.load 34 (.tmp 5)),34,none⟩,
 ⟨(some 7),(.move (.tmp 1)),3,none⟩,
 ⟨(some 8),(.call ⟨(.value (.func 50)), #[(.tmp 6),(.tmp 7)], #[34,3]⟩),3,none⟩,
 ⟨(some 1),(.assign (.tmp 8)),3,none⟩])
 (.seq
 (.seq
 (.ops [
 ⟨(some 9),(.move (.tmp 1)),3,none⟩,
 ⟨(some 10),(.binOp .lss 3 (.tmp 9) (.const (.int .i64 0)) 3),4,none⟩])
 (.cond (.tmp 10)
 (.seq
 (.ops [
 ⟨(some 4),(.assign (.const (.int .i64 (-1)))),3,none⟩])
 .ret)
 .skip))
 (.seq
 (.ops [
 ⟨(some 11),(.fieldAddr 39 (.tmp 2) 3),0,none⟩,
 ⟨(some 12),(.load 34 (.tmp 11)),34,none⟩,
 ⟨(some 13),(.move (.tmp 1)),3,none⟩,
 ⟨(some 14),(.call ⟨(.value (.func 50)), #[(.tmp 12),(.tmp 13)], #[34,3]⟩),3,none⟩,
 ⟨(some 1),(.assign (.tmp 14)),3,none⟩])
 (.seq
 (.seq
 (.ops [
 ⟨(some 15),(.move (.tmp 1)),3,none⟩,
 ⟨(some 16),(.binOp .lss 3 (.tmp 15) (.const (.int .i64 0)) 3),4,none⟩])
 (.cond (.tmp 16)
 (.seq
 (.ops [
 ⟨(some 4),(.assign (.const (.int .i64 (-1)))),3,none⟩])
 .ret)
 .skip))
 (.seq
 (.ops [
 ⟨(some 17),(.move (.tmp 1)),3,none⟩,
 ⟨(some 4),(.assign (.tmp 17)),3,none⟩])
 .ret)))))
theorem vT:Tryd.f24.body.map (CY lends)=some k24:=by kernel_rfl
theorem ACI:DR Tryd.f24 2=true:=by kernel_rfl
theorem c24{a l:List D}{r:D×List D}(h:Cu Y.env k24 (HZ Ak l.length [ResultVar.tmp 4] r) (entry a l))(ha:a.length=2):Y.call 24 a l=some r:=
 Ah (Y:=Y) rfl Tryd.func24 (ha▸ACI) vT h
theorem Jb(CL:Int)(CO:Int)(BM:List (List Int))(BS:List (List Int))(k:Int){r:Int}(h:FV CL CO BM BS k=some r):Y.call 24 [D.agg [D.int .i64 CL,D.int .i64 CO,D.sl 70 (AJ (fun x=>D.sl 3 (AJ (D.int .i64) x)) BM),D.sl 70 (AJ (fun x=>D.sl 3 (AJ (D.int .i64) x)) BS)],D.int .i64 k] []=some (D.int .i64 r,[]):=by
 refine c24 ?_ rfl
 unfold k24
 unfold FV at h
 obtain⟨Oq,hl1,h⟩:=BP h
 try dsimp only at h
 have c1:=KT BM k hl1
 by_cases e2:Oq<0
 ·rw [if_pos e2]at h
  obtain rfl:=Option.some.inj h
  simp (maxDischargeDepth:=9) only [↓AL,AB,AO,Ao,AC,AP,Ap,↓reduceIte,Nat.reduceEqDiff,Nat.reduceLT,Nat.reduceLeDiff,Nat.reduceAdd,Nat.reduceMul,Nat.reduceMod,Nat.reduceDiv,Nat.reducePow,Nat.reduceSub,Nat.reduceBEq,Int.reduceLE,Int.reduceLT,Int.reduceEq,Int.reduceSub,Int.reduceAdd,Int.reduceToNat,Int.reduceNeg,c1,e2]<;>(repeat' apply And.intro)<;>first|rfl|exact⟨_,rfl⟩|exact⟨_,_,rfl⟩|simp [AJ,A7]
 ·rw [if_neg e2]at h
  obtain⟨DY,hl3,h⟩:=BP h
  try dsimp only at h
  have c3:=KT BS Oq hl3
  by_cases e4:DY<0
  ·rw [if_pos e4]at h
   obtain rfl:=Option.some.inj h
   simp (maxDischargeDepth:=9) only [↓AL,AB,AO,Ao,AC,AP,Ap,↓reduceIte,Nat.reduceEqDiff,Nat.reduceLT,Nat.reduceLeDiff,Nat.reduceAdd,Nat.reduceMul,Nat.reduceMod,Nat.reduceDiv,Nat.reducePow,Nat.reduceSub,Nat.reduceBEq,Int.reduceLE,Int.reduceLT,Int.reduceEq,Int.reduceSub,Int.reduceAdd,Int.reduceToNat,Int.reduceNeg,c1,e2,c3,e4]<;>(repeat' apply And.intro)<;>first|rfl|exact⟨_,rfl⟩|exact⟨_,_,rfl⟩|simp [AJ,A7]
  ·rw [if_neg e4]at h
   obtain rfl:=Option.some.inj h
   simp (maxDischargeDepth:=9) only [↓AL,AB,AO,Ao,AC,AP,Ap,↓reduceIte,Nat.reduceEqDiff,Nat.reduceLT,Nat.reduceLeDiff,Nat.reduceAdd,Nat.reduceMul,Nat.reduceMod,Nat.reduceDiv,Nat.reducePow,Nat.reduceSub,Nat.reduceBEq,Int.reduceLE,Int.reduceLT,Int.reduceEq,Int.reduceSub,Int.reduceAdd,Int.reduceToNat,Int.reduceNeg,c1,e2,c3,e4]<;>(repeat' apply And.intro)<;>first|rfl|exact⟨_,rfl⟩|exact⟨_,_,rfl⟩|simp [AJ,A7]
theorem Ot(a b:Int)(n e:List (List Int))(k:Int)(hn:BV n)(he:BV e)(hk:0≤k∧k+GU n+GU e<1099511627776):FV a b (Dz k n) (Dz (k+GU n) e) k=some (k+GU n+GU e):=by
 have h1:=EX n
 have h2:=EX e
 unfold FV
 rw [Lj n k hn (by omega),Option.bind_some,if_neg (by omega),Lj e _ he (by omega),Option.bind_some,if_neg (by omega)]
end Go.Proofs.YtaogbcdlpgfplaaDoor
