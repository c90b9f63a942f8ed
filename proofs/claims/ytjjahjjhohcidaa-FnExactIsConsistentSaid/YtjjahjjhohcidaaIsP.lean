/- When lists are a problem, as plain functions. Conditions: the lists are short. -/
import Derived.Test.YtjjahjjhohcidaaL6
import Derived.Test.YtjjahjjhohcidaaPB
namespace Go.Proofs.Ytjjahjjhohcidaa
open Go Dv
set_option linter.unusedSimpArgs false
set_option linter.unusedVariables false
set_option maxRecDepth 100000
set_option maxHeartbeats 4000000
def EC(n lo hi:Int):Bool:=decide (lo≤n∧n≤hi)
theorem G4{n lo hi:Int}:EC n lo hi=true↔lo≤n∧n≤hi:=by simp [EC]
noncomputable def I0(n_:Int)(low:Int)(high:Int):Option (Bool):=
 if low≤n_ then
  some (decide (n_≤high))
 else
  some false
def tj:SC:=
 .seq
 (.ops [
 ⟨(some 6),(.assign (.const (.bool false))),4,none⟩])
 (.seq
 (.ops [
 ⟨(some 7),(.move (.tmp 1)),3,none⟩,
 ⟨(some 8),(.move (.tmp 0)),3,none⟩,
 ⟨(some 9),(.binOp .leq 3 (.tmp 7) (.tmp 8) 3),4,none⟩,
 ⟨(some 10),(.move (.tmp 9)),4,none⟩,
 ⟨(some 11),(.move (.tmp 0)),3,(some (some 10,true))⟩,
 ⟨(some 12),(.move (.tmp 2)),3,(some (some 10,true))⟩,
 ⟨(some 13),(.binOp .leq 3 (.tmp 11) (.tmp 12) 3),4,(some (some 10,true))⟩,
 ⟨(some 14),(.pick (.tmp 10) (.tmp 13) (.const (.bool false))),4,none⟩,
 ⟨(some 6),(.assign (.tmp 14)),4,none⟩])
 .ret)
theorem be:Try.f84.body.map (BZ lends)=some tj:=by kernel_rfl
theorem tm:CD Try.f84 3=true:=by kernel_rfl
theorem c84{a l:List D}{r:D×List D}(h:Bw Y.env tj (Ew AE l.length [ResultVar.tmp 6] r) (entry a l))(ha:a.length=3):Y.call 84 a l=some r:=
 AN (Y:=Y) rfl Try.func84 (ha▸tm) be h
theorem LE(n_:Int)(low:Int)(high:Int){r:Bool}(h:I0 n_ low high=some r):Y.call 84 [D.int .i64 n_,D.int .i64 low,D.int .i64 high] []=some (D.bool r,[]):=by
 refine c84 ?_ rfl
 unfold tj
 unfold I0 at h
 by_cases e1:low≤n_
 ·rw [if_pos e1]at h
  obtain rfl:=Option.some.inj h
  simp (maxDischargeDepth:=9) only [↓A9,A5,AB,AY,A6,AA,AZ,↓reduceIte,Nat.reduceEqDiff,Nat.reduceLT,Nat.reduceLeDiff,Nat.reduceAdd,Nat.reduceMul,Nat.reduceMod,Nat.reduceDiv,Nat.reducePow,Nat.reduceSub,Nat.reduceBEq,Int.reduceLE,Int.reduceLT,Int.reduceEq,Int.reduceSub,Int.reduceAdd,Int.reduceToNat,Int.reduceNeg,e1]<;>(repeat' apply And.intro)<;>first | rfl | exact⟨_,rfl⟩ | exact⟨_,_,rfl⟩ | simp [A8,A3]
 ·rw [if_neg e1]at h
  obtain rfl:=Option.some.inj h
  simp (maxDischargeDepth:=9) only [↓A9,A5,AB,AY,A6,AA,AZ,↓reduceIte,Nat.reduceEqDiff,Nat.reduceLT,Nat.reduceLeDiff,Nat.reduceAdd,Nat.reduceMul,Nat.reduceMod,Nat.reduceDiv,Nat.reducePow,Nat.reduceSub,Nat.reduceBEq,Int.reduceLE,Int.reduceLT,Int.reduceEq,Int.reduceSub,Int.reduceAdd,Int.reduceToNat,Int.reduceNeg,e1]<;>(repeat' apply And.intro)<;>first | rfl | exact⟨_,rfl⟩ | exact⟨_,_,rfl⟩ | simp [A8,A3]
noncomputable def Ml(n_:Int)(lo:Int)(hi:Int):Option (Bool):=
 if lo≤n_ then
  some (decide (n_≤hi))
 else
  some false
def tn:SC:=
 .seq
 (.ops [
 ⟨(some 6),(.assign (.const (.bool false))),4,none⟩])
 (.seq
 (.ops [
 ⟨(some 7),(.move (.tmp 0)),3,none⟩,
 ⟨(some 8),(.move (.tmp 1)),3,none⟩,
 ⟨(some 9),(.binOp .geq 3 (.tmp 7) (.tmp 8) 3),4,none⟩,
 ⟨(some 10),(.move (.tmp 9)),4,none⟩,
 ⟨(some 11),(.move (.tmp 0)),3,(some (some 10,true))⟩,
 ⟨(some 12),(.move (.tmp 2)),3,(some (some 10,true))⟩,
 ⟨(some 13),(.binOp .leq 3 (.tmp 11) (.tmp 12) 3),4,(some (some 10,true))⟩,
 ⟨(some 14),(.pick (.tmp 10) (.tmp 13) (.const (.bool false))),4,none⟩,
 ⟨(some 6),(.assign (.tmp 14)),4,none⟩])
 .ret)
theorem bf:Try.f79.body.map (BZ lends)=some tn:=by kernel_rfl
theorem tp:CD Try.f79 3=true:=by kernel_rfl
theorem c79{a l:List D}{r:D×List D}(h:Bw Y.env tn (Ew AE l.length [ResultVar.tmp 6] r) (entry a l))(ha:a.length=3):Y.call 79 a l=some r:=
 AN (Y:=Y) rfl Try.func79 (ha▸tp) bf h
theorem Oj(n_:Int)(lo:Int)(hi:Int){r:Bool}(h:Ml n_ lo hi=some r):Y.call 79 [D.int .i64 n_,D.int .i64 lo,D.int .i64 hi] []=some (D.bool r,[]):=by
 refine c79 ?_ rfl
 unfold tn
 unfold Ml at h
 by_cases e1:lo≤n_
 ·rw [if_pos e1]at h
  obtain rfl:=Option.some.inj h
  simp (maxDischargeDepth:=9) only [↓A9,A5,AB,AY,A6,AA,AZ,↓reduceIte,Nat.reduceEqDiff,Nat.reduceLT,Nat.reduceLeDiff,Nat.reduceAdd,Nat.reduceMul,Nat.reduceMod,Nat.reduceDiv,Nat.reducePow,Nat.reduceSub,Nat.reduceBEq,Int.reduceLE,Int.reduceLT,Int.reduceEq,Int.reduceSub,Int.reduceAdd,Int.reduceToNat,Int.reduceNeg,e1]<;>(repeat' apply And.intro)<;>first | rfl | exact⟨_,rfl⟩ | exact⟨_,_,rfl⟩ | simp [A8,A3]
 ·rw [if_neg e1]at h
  obtain rfl:=Option.some.inj h
  simp (maxDischargeDepth:=9) only [↓A9,A5,AB,AY,A6,AA,AZ,↓reduceIte,Nat.reduceEqDiff,Nat.reduceLT,Nat.reduceLeDiff,Nat.reduceAdd,Nat.reduceMul,Nat.reduceMod,Nat.reduceDiv,Nat.reducePow,Nat.reduceSub,Nat.reduceBEq,Int.reduceLE,Int.reduceLT,Int.reduceEq,Int.reduceSub,Int.reduceAdd,Int.reduceToNat,Int.reduceNeg,e1]<;>(repeat' apply And.intro)<;>first | rfl | exact⟨_,rfl⟩ | exact⟨_,_,rfl⟩ | simp [A8,A3]
theorem Ol(n lo hi:Int):I0 n lo hi=some (EC n lo hi):=by unfold I0 EC;by_cases h1:lo≤n<;>by_cases h2:n≤hi<;>simp [h1,h2]
theorem Rx(n lo hi:Int):Ml n lo hi=some (EC n lo hi):=by unfold Ml EC;by_cases h1:lo≤n<;>by_cases h2:n≤hi<;>simp [h1,h2]
theorem EV(n_:Int)(low:Int)(high:Int):Y.call 84 [D.int .i64 n_,D.int .i64 low,D.int .i64 high] []=some (D.bool (EC n_ low high),[]):=LE n_ low high (Ol n_ low high)
theorem Fl(n_:Int)(lo:Int)(hi:Int):Y.call 79 [D.int .i64 n_,D.int .i64 lo,D.int .i64 hi] []=some (D.bool (EC n_ lo hi),[]):=Oj n_ lo hi (Rx n_ lo hi)
noncomputable def DZ(l:List Int)(lo:Int)(hi:Int)(Da:Int):Option ((Int)⊕(Unit⊕Unit)):=
 if Da<(l.length:Int)then
  ck (0≤Da∧Da.toNat<l.length)<|
  if(EC (l.getD Da.toNat default) lo hi)=true then
   some (Sum.inl (IntKind.i64.wrap (Da+1)))
  else
   some (Sum.inr (Sum.inl ()))
 else
  some (Sum.inr (Sum.inr ()))
noncomputable def G5(l:List Int)(lo:Int)(hi:Int)(v:Int):Option (Unit⊕Unit):=Gc (fun v=>DZ l lo hi v) v
noncomputable def JN(l:List Int)(lo:Int)(hi:Int):Option (Bool):=
 (G5 l lo hi 0).bind fun JO=>
 match JO with
 | .inl q2_=>
  some false
 | .inr q2_=>
  some true
def Mm:SC:=
 .seq
 (.ops [
 ⟨(some 12),(.binOp .lss 3 (.tmp 11) (.tmp 10) 3),0,none⟩])
 (.seq
 (.cond (.tmp 12)
 .skip
 (.exit 0))
 (.seq
 (.block 1
 (.seq
 (.ops [
 ⟨(some 13),(.indexAddr 23 (.tmp 9) (.tmp 11)),0,none⟩,
 ⟨(some 14),(.load 3 (.tmp 13)),3,none⟩,
 ⟨(some 8),(.assign (.tmp 14)),3,none⟩])
 (.seq
 (.ops [
 ⟨(some 15),(.move (.tmp 8)),3,none⟩,
 ⟨(some 16),(.move (.tmp 1)),3,none⟩,
 ⟨(some 17),(.move (.tmp 2)),3,none⟩,
 ⟨(some 18),(.call ⟨(.value (.func 79)), #[(.tmp 15),(.tmp 16),(.tmp 17)], #[3,3,3]⟩),4,none⟩,
 ⟨(some 19),(.unOp .not 4 (.tmp 18)),4,none⟩])
 (.cond (.tmp 19)
 (.seq
 (.ops [
 ⟨(some 6),(.assign (.const (.bool false))),4,none⟩])
 .ret)
 .skip))))
 (.ops [
 ⟨(some 20),(.binOp .add 3 (.tmp 11) (.const (.int .i64 1)) 3),3,none⟩,
 ⟨(some 11),(.move (.tmp 20)),3,none⟩])))
def U4:SC:= .loop Mm
def tq:SC:=
 .seq
 (.ops [
 ⟨(some 6),(.assign (.const (.bool false))),4,none⟩])
 (.seq
 (.seq
 (.ops [
 ⟨(some 9),(.move (.tmp 0)),23,none⟩,
 ⟨(some 10),(.call ⟨(.builtin .len), #[(.tmp 9)], #[23]⟩),3,none⟩,
 ⟨(some 11),(.move (.const (.int .i64 0))),3,none⟩])
 (.block 0
 U4))
 (.seq
 (.ops [
 ⟨(some 6),(.assign (.const (.bool true))),4,none⟩])
 .ret))
theorem bg:Try.f81.body.map (BZ lends)=some tq:=by kernel_rfl
theorem tr:CD Try.f81 3=true:=by kernel_rfl
theorem c81{a l:List D}{r:D×List D}(h:Bw Y.env tq (Ew AE l.length [ResultVar.tmp 6] r) (entry a l))(ha:a.length=3):Y.call 81 a l=some r:=
 AN (Y:=Y) rfl Try.func81 (ha▸tr) bg h
def Cm(l:List Int)(lo:Int)(hi:Int)(Da:Int)(s:St):Prop:=s.v 1=D.int .i64 lo∧s.v 2=D.int .i64 hi∧s.v 9=D.sl 3 (A8 (D.int .i64) l)∧s.v 10=D.int .i64 (l.length:Int)∧s.v 11=D.int .i64 Da
def Cn(l:List Int)(lo:Int)(hi:Int)(r:Unit⊕Unit)(ex:Ex)(s:St):Prop:=match r with
 | .inl q=>ex= .ret∧s.v 6=D.bool false
 | .inr q=>ex= .exit 0
theorem LF(l:List Int)(lo:Int)(hi:Int){v:Int}{s:St}{r:Unit⊕Unit}(h:G5 l lo hi v=some r)(hM:Cm l lo hi v s):Bw Y.env U4 (Cn l lo hi r) s:=by
 unfold G5 at h
 refine CO (c:=Mm) (fun v=>DZ l lo hi v) (fun v s=>Cm l lo hi v s) (Cn l lo hi) ?_ h hM
 clear h hM s v r
 intro Da s o hM h
 unfold DZ at h
 unfold Cm at hM
 obtain⟨m0,m1,m2,m3,m4⟩:=hM
 unfold Mm
 by_cases e1:Da<(l.length:Int)
 ·rw [if_pos e1]at h
  obtain⟨e2,h⟩:=C7 h
  have c3:=Fl (l.getD Da.toNat default) lo hi
  by_cases e4:(EC (l.getD Da.toNat default) lo hi)=true
  ·rw [if_pos e4]at h
   obtain rfl:=Option.some.inj h
   simp (maxDischargeDepth:=9) only [↓A9,A5,AB,AY,A6,AA,AZ,↓reduceIte,Nat.reduceEqDiff,Nat.reduceLT,Nat.reduceLeDiff,Nat.reduceAdd,Nat.reduceMul,Nat.reduceMod,Nat.reduceDiv,Nat.reducePow,Nat.reduceSub,Nat.reduceBEq,Int.reduceLE,Int.reduceLT,Int.reduceEq,Int.reduceSub,Int.reduceAdd,Int.reduceToNat,Int.reduceNeg,m0,m1,m2,m3,m4,e1,e2.1,e2.2,c3,e4,Cm,Cn,D6,D7,D8]<;>(repeat' apply And.intro)<;>first | rfl | exact⟨_,rfl⟩ | exact⟨_,_,rfl⟩ | simp [A8,A3]
  ·rw [if_neg e4]at h
   have e4f:(EC (l.getD Da.toNat default) lo hi)=false:=Bool.eq_false_iff.mpr e4
   obtain rfl:=Option.some.inj h
   simp (maxDischargeDepth:=9) only [↓A9,A5,AB,AY,A6,AA,AZ,↓reduceIte,Nat.reduceEqDiff,Nat.reduceLT,Nat.reduceLeDiff,Nat.reduceAdd,Nat.reduceMul,Nat.reduceMod,Nat.reduceDiv,Nat.reducePow,Nat.reduceSub,Nat.reduceBEq,Int.reduceLE,Int.reduceLT,Int.reduceEq,Int.reduceSub,Int.reduceAdd,Int.reduceToNat,Int.reduceNeg,m0,m1,m2,m3,m4,e1,e2.1,e2.2,c3,e4f,Cm,Cn,D6,D7,D8]<;>(repeat' apply And.intro)<;>first | rfl | exact⟨_,rfl⟩ | exact⟨_,_,rfl⟩ | simp [A8,A3]
 ·rw [if_neg e1]at h
  obtain rfl:=Option.some.inj h
  simp (maxDischargeDepth:=9) only [↓A9,A5,AB,AY,A6,AA,AZ,↓reduceIte,Nat.reduceEqDiff,Nat.reduceLT,Nat.reduceLeDiff,Nat.reduceAdd,Nat.reduceMul,Nat.reduceMod,Nat.reduceDiv,Nat.reducePow,Nat.reduceSub,Nat.reduceBEq,Int.reduceLE,Int.reduceLT,Int.reduceEq,Int.reduceSub,Int.reduceAdd,Int.reduceToNat,Int.reduceNeg,m0,m1,m2,m3,m4,e1,Cm,Cn,D6,D7,D8]<;>(repeat' apply And.intro)<;>first | rfl | exact⟨_,rfl⟩ | exact⟨_,_,rfl⟩ | simp [A8,A3]
theorem Mn(l:List Int)(lo:Int)(hi:Int){r:Bool}(h:JN l lo hi=some r):Y.call 81 [D.sl 3 (A8 (D.int .i64) l),D.int .i64 lo,D.int .i64 hi] []=some (D.bool r,[]):=by
 refine c81 ?_ rfl
 unfold tq
 unfold JN at h
 obtain⟨JO,hl2,h⟩:=Bg h
 try dsimp only at h
 simp (maxDischargeDepth:=9) only [↓A9,A5,AB,AY,A6,AA,AZ,↓reduceIte,Nat.reduceEqDiff,Nat.reduceLT,Nat.reduceLeDiff,Nat.reduceAdd,Nat.reduceMul,Nat.reduceMod,Nat.reduceDiv,Nat.reducePow,Nat.reduceSub,Nat.reduceBEq,Int.reduceLE,Int.reduceLT,Int.reduceEq,Int.reduceSub,Int.reduceAdd,Int.reduceToNat,Int.reduceNeg]
 refine Ba (LF l lo hi hl2 ?_) ?_
 ·simp (maxDischargeDepth:=9) only [↓A9,A5,AB,AY,A6,AA,AZ,↓reduceIte,Nat.reduceEqDiff,Nat.reduceLT,Nat.reduceLeDiff,Nat.reduceAdd,Nat.reduceMul,Nat.reduceMod,Nat.reduceDiv,Nat.reducePow,Nat.reduceSub,Nat.reduceBEq,Int.reduceLE,Int.reduceLT,Int.reduceEq,Int.reduceSub,Int.reduceAdd,Int.reduceToNat,Int.reduceNeg,Cm]<;>(repeat' apply And.intro)<;>first | rfl | exact⟨_,rfl⟩ | exact⟨_,_,rfl⟩ | simp [A8,A3]
 ·intro ex2 s2 hX2
  rcases JO with q2_ | q2_
  ·unfold Cn at hX2
   dsimp only at hX2 h
   obtain⟨rfl,n2_0⟩:=hX2
   obtain rfl:=Option.some.inj h
   simp (maxDischargeDepth:=9) only [↓A9,A5,AB,AY,A6,AA,AZ,↓reduceIte,Nat.reduceEqDiff,Nat.reduceLT,Nat.reduceLeDiff,Nat.reduceAdd,Nat.reduceMul,Nat.reduceMod,Nat.reduceDiv,Nat.reducePow,Nat.reduceSub,Nat.reduceBEq,Int.reduceLE,Int.reduceLT,Int.reduceEq,Int.reduceSub,Int.reduceAdd,Int.reduceToNat,Int.reduceNeg,n2_0]<;>(repeat' apply And.intro)<;>first | rfl | exact⟨_,rfl⟩ | exact⟨_,_,rfl⟩ | simp [A8,A3]
  ·unfold Cn at hX2
   dsimp only at hX2 h
   obtain rfl:=hX2
   obtain rfl:=Option.some.inj h
   simp (maxDischargeDepth:=9) only [↓A9,A5,AB,AY,A6,AA,AZ,↓reduceIte,Nat.reduceEqDiff,Nat.reduceLT,Nat.reduceLeDiff,Nat.reduceAdd,Nat.reduceMul,Nat.reduceMod,Nat.reduceDiv,Nat.reducePow,Nat.reduceSub,Nat.reduceBEq,Int.reduceLE,Int.reduceLT,Int.reduceEq,Int.reduceSub,Int.reduceAdd,Int.reduceToNat,Int.reduceNeg]<;>(repeat' apply And.intro)<;>first | rfl | exact⟨_,rfl⟩ | exact⟨_,_,rfl⟩ | simp [A8,A3]
def Dz(l:List Int)(lo hi:Int):Bool:=l.all fun x=>EC x lo hi
theorem QL(l:List Int)(lo hi:Int)(h:l.length<1099511627776):JN l lo hi=some (Dz l lo hi):=by
 unfold JN G5
 have key:=CT (fun v=>DZ l lo hi v) (fun i=>(i:Int)) l.length (fun i=>EC (l.getD i default) lo hi) (.inl ()) (.inr ()) ?_ ?_
 ·simp only [Int.natCast_zero]at key
  rw [key,Ob (fun x=>EC x lo hi)]
  unfold Dz
  cases l.all (fun x=>EC x lo hi)<;>rfl
 ·intro i hi
  simp only [DZ]
  rw [if_pos (CE hi),C3 (E9 hi),Int.toNat_natCast,KQ i (by omega)]
 ·simp only [DZ];rw [if_neg (Am _)]
theorem QM(l:List Int)(lo:Int)(hi:Int)(h0:l.length<1099511627776):Y.call 81 [D.sl 3 (A8 (D.int .i64) l),D.int .i64 lo,D.int .i64 hi] []=some (D.bool (Dz l lo hi),[]):=Mn l lo hi (QL l lo hi h0)
noncomputable def AL(s_:List Int)(f:Int→Option Bool)(UZ:Int):Option ((Int)⊕(Int⊕Unit)):=
 if UZ<(s_.length:Int)then
  ck (0≤UZ∧UZ.toNat<s_.length)<|
  (f (s_.getD UZ.toNat default)).bind fun H0=>
  if H0=true then
   some (Sum.inr (Sum.inl UZ))
  else
   some (Sum.inl (IntKind.i64.wrap (UZ+1)))
 else
  some (Sum.inr (Sum.inr ()))
noncomputable def BC(s_:List Int)(f:Int→Option Bool)(v:Int):Option (Int⊕Unit):=Gc (fun v=>AL s_ f v) v
noncomputable def B1(s_:List Int)(f:Int→Option Bool):Option (Int):=
 (BC s_ f 0).bind fun JO=>
 match JO with
 | .inl q2_=>
  some q2_
 | .inr q2_=>
  some (-1)
def KT:SC:=
 .seq
 (.ops [
 ⟨(some 9),(.binOp .lss 3 (.tmp 8) (.tmp 7) 3),0,none⟩])
 (.seq
 (.cond (.tmp 9)
 .skip
 (.exit 0))
 (.seq
 (.block 1
 (.seq
 (.ops [
 ⟨(some 10),(.move (.tmp 8)),3,none⟩,
 ⟨(some 5),(.assign (.tmp 10)),3,none⟩])
 (.seq
 (.ops [
 ⟨(some 11),(.move (.tmp 1)),73,none⟩,
 ⟨(some 12),(.move (.tmp 0)),23,none⟩,
 ⟨(some 13),(.move (.tmp 5)),3,none⟩,
 ⟨(some 14),(.indexAddr 23 (.tmp 12) (.tmp 13)),0,none⟩,
 ⟨(some 15),(.load 3 (.tmp 14)),3,none⟩,
 ⟨(some 16),(.call ⟨(.value (.tmp 11)), #[(.tmp 15)], #[3]⟩),4,none⟩])
 (.cond (.tmp 16)
 (.seq
 (.ops [
 ⟨(some 17),(.move (.tmp 5)),3,none⟩,
 ⟨(some 4),(.assign (.tmp 17)),3,none⟩])
 .ret)
 .skip))))
 (.ops [
 ⟨(some 18),(.binOp .add 3 (.tmp 8) (.const (.int .i64 1)) 3),3,none⟩,
 ⟨(some 8),(.move (.tmp 18)),3,none⟩])))
def Qx:SC:= .loop KT
def bh:SC:=
 .seq
 (.ops [
 ⟨(some 4),(.assign (.const (.int .i64 0))),3,none⟩])
 (.seq
 (.seq
 (.ops [
 ⟨(some 6),(.move (.tmp 0)),23,none⟩,
 ⟨(some 7),(.call ⟨(.builtin .len), #[(.tmp 6)], #[23]⟩),3,none⟩,
 ⟨(some 8),(.move (.const (.int .i64 0))),3,none⟩])
 (.block 0
 Qx))
 (.seq
 (.ops [
 ⟨(some 4),(.assign (.const (.int .i64 (-1)))),3,none⟩])
 .ret))
theorem Vg:Try.f123.body.map (BZ lends)=some bh:=by kernel_rfl
theorem mm:CD Try.f123 2=true:=by kernel_rfl
theorem tu{a l:List D}{r:D×List D}(h:Bw Y.env bh (Ew AE l.length [ResultVar.tmp 4] r) (entry a l))(ha:a.length=2):Y.call 123 a l=some r:=
 AN (Y:=Y) rfl Try.func123 (ha▸mm) Vg h
def AU(s_:List Int)(f:Int→Option Bool)(f_f:FuncId)(f_c:List D)(UZ:Int)(s:St):Prop:=s.v 0=D.sl 3 (A8 (D.int .i64) s_)∧s.v 1=D.clo f_f f_c∧s.v 7=D.int .i64 (s_.length:Int)∧s.v 8=D.int .i64 UZ
def AV(s_:List Int)(f:Int→Option Bool)(f_f:FuncId)(f_c:List D)(r:Int⊕Unit)(ex:Ex)(s:St):Prop:=match r with
 | .inl q=>ex= .ret∧s.v 4=D.int .i64 q
 | .inr q=>ex= .exit 0
theorem E0(s_:List Int)(f:Int→Option Bool)(f_f:FuncId)(f_c:List D)(f_h: ∀(a0:Int) (r:Bool),f a0=some r→Y.call f_f (D.int .i64 a0::f_c) []=some (D.bool r,[]))(f_l:lends f_f=false){v:Int}{s:St}{r:Int⊕Unit}(h:BC s_ f v=some r)(hM:AU s_ f f_f f_c v s):Bw Y.env Qx (AV s_ f f_f f_c r) s:=by
 unfold BC at h
 refine CO (c:=KT) (fun v=>AL s_ f v) (fun v s=>AU s_ f f_f f_c v s) (AV s_ f f_f f_c) ?_ h hM
 clear h hM s v r
 intro UZ s o hM h
 unfold AL at h
 unfold AU at hM
 obtain⟨m0,m1,m2,m3⟩:=hM
 unfold KT
 by_cases e1:UZ<(s_.length:Int)
 ·rw [if_pos e1]at h
  obtain⟨e2,h⟩:=C7 h
  obtain⟨H0,hl3,h⟩:=Bg h
  try dsimp only at h
  have c3:=f_h _ _ hl3
  by_cases e4:H0=true
  ·rw [if_pos e4]at h
   obtain rfl:=Option.some.inj h
   simp (maxDischargeDepth:=9) only [↓A9,A5,AB,AY,A6,AA,AZ,↓reduceIte,Nat.reduceEqDiff,Nat.reduceLT,Nat.reduceLeDiff,Nat.reduceAdd,Nat.reduceMul,Nat.reduceMod,Nat.reduceDiv,Nat.reducePow,Nat.reduceSub,Nat.reduceBEq,Int.reduceLE,Int.reduceLT,Int.reduceEq,Int.reduceSub,Int.reduceAdd,Int.reduceToNat,Int.reduceNeg,m0,m1,m2,m3,f_l,e1,e2.1,e2.2,c3,e4,AU,AV,D6,D7,D8]<;>(repeat' apply And.intro)<;>first | rfl | exact⟨_,rfl⟩ | exact⟨_,_,rfl⟩ | simp [A8,A3]
  ·rw [if_neg e4]at h
   have e4f:H0=false:=Bool.eq_false_iff.mpr e4
   obtain rfl:=Option.some.inj h
   simp (maxDischargeDepth:=9) only [↓A9,A5,AB,AY,A6,AA,AZ,↓reduceIte,Nat.reduceEqDiff,Nat.reduceLT,Nat.reduceLeDiff,Nat.reduceAdd,Nat.reduceMul,Nat.reduceMod,Nat.reduceDiv,Nat.reducePow,Nat.reduceSub,Nat.reduceBEq,Int.reduceLE,Int.reduceLT,Int.reduceEq,Int.reduceSub,Int.reduceAdd,Int.reduceToNat,Int.reduceNeg,m0,m1,m2,m3,f_l,e1,e2.1,e2.2,c3,e4f,AU,AV,D6,D7,D8]<;>(repeat' apply And.intro)<;>first | rfl | exact⟨_,rfl⟩ | exact⟨_,_,rfl⟩ | simp [A8,A3]
 ·rw [if_neg e1]at h
  obtain rfl:=Option.some.inj h
  simp (maxDischargeDepth:=9) only [↓A9,A5,AB,AY,A6,AA,AZ,↓reduceIte,Nat.reduceEqDiff,Nat.reduceLT,Nat.reduceLeDiff,Nat.reduceAdd,Nat.reduceMul,Nat.reduceMod,Nat.reduceDiv,Nat.reducePow,Nat.reduceSub,Nat.reduceBEq,Int.reduceLE,Int.reduceLT,Int.reduceEq,Int.reduceSub,Int.reduceAdd,Int.reduceToNat,Int.reduceNeg,m0,m1,m2,m3,f_l,e1,AU,AV,D6,D7,D8]<;>(repeat' apply And.intro)<;>first | rfl | exact⟨_,rfl⟩ | exact⟨_,_,rfl⟩ | simp [A8,A3]
theorem EA(s_:List Int)(f:Int→Option Bool)(f_f:FuncId)(f_c:List D)(f_h: ∀(a0:Int) (r:Bool),f a0=some r→Y.call f_f (D.int .i64 a0::f_c) []=some (D.bool r,[]))(f_l:lends f_f=false){r:Int}(h:B1 s_ f=some r):Y.call 123 [D.sl 3 (A8 (D.int .i64) s_),D.clo f_f f_c] []=some (D.int .i64 r,[]):=by
 refine tu ?_ rfl
 unfold bh
 unfold B1 at h
 obtain⟨JO,hl2,h⟩:=Bg h
 try dsimp only at h
 simp (maxDischargeDepth:=9) only [↓A9,A5,AB,AY,A6,AA,AZ,↓reduceIte,Nat.reduceEqDiff,Nat.reduceLT,Nat.reduceLeDiff,Nat.reduceAdd,Nat.reduceMul,Nat.reduceMod,Nat.reduceDiv,Nat.reducePow,Nat.reduceSub,Nat.reduceBEq,Int.reduceLE,Int.reduceLT,Int.reduceEq,Int.reduceSub,Int.reduceAdd,Int.reduceToNat,Int.reduceNeg,f_l]
 refine Ba (E0 s_ f f_f f_c f_h f_l hl2 ?_) ?_
 ·simp (maxDischargeDepth:=9) only [↓A9,A5,AB,AY,A6,AA,AZ,↓reduceIte,Nat.reduceEqDiff,Nat.reduceLT,Nat.reduceLeDiff,Nat.reduceAdd,Nat.reduceMul,Nat.reduceMod,Nat.reduceDiv,Nat.reducePow,Nat.reduceSub,Nat.reduceBEq,Int.reduceLE,Int.reduceLT,Int.reduceEq,Int.reduceSub,Int.reduceAdd,Int.reduceToNat,Int.reduceNeg,f_l,AU]<;>(repeat' apply And.intro)<;>first | rfl | exact⟨_,rfl⟩ | exact⟨_,_,rfl⟩ | simp [A8,A3]
 ·intro ex2 s2 hX2
  rcases JO with q2_ | q2_
  ·unfold AV at hX2
   dsimp only at hX2 h
   obtain⟨rfl,n2_0⟩:=hX2
   obtain rfl:=Option.some.inj h
   simp (maxDischargeDepth:=9) only [↓A9,A5,AB,AY,A6,AA,AZ,↓reduceIte,Nat.reduceEqDiff,Nat.reduceLT,Nat.reduceLeDiff,Nat.reduceAdd,Nat.reduceMul,Nat.reduceMod,Nat.reduceDiv,Nat.reducePow,Nat.reduceSub,Nat.reduceBEq,Int.reduceLE,Int.reduceLT,Int.reduceEq,Int.reduceSub,Int.reduceAdd,Int.reduceToNat,Int.reduceNeg,f_l,n2_0]<;>(repeat' apply And.intro)<;>first | rfl | exact⟨_,rfl⟩ | exact⟨_,_,rfl⟩ | simp [A8,A3]
  ·unfold AV at hX2
   dsimp only at hX2 h
   obtain rfl:=hX2
   obtain rfl:=Option.some.inj h
   simp (maxDischargeDepth:=9) only [↓A9,A5,AB,AY,A6,AA,AZ,↓reduceIte,Nat.reduceEqDiff,Nat.reduceLT,Nat.reduceLeDiff,Nat.reduceAdd,Nat.reduceMul,Nat.reduceMod,Nat.reduceDiv,Nat.reducePow,Nat.reduceSub,Nat.reduceBEq,Int.reduceLE,Int.reduceLT,Int.reduceEq,Int.reduceSub,Int.reduceAdd,Int.reduceToNat,Int.reduceNeg,f_l]<;>(repeat' apply And.intro)<;>first | rfl | exact⟨_,rfl⟩ | exact⟨_,_,rfl⟩ | simp [A8,A3]
noncomputable def Ae(s_:List Int)(f:Int→Option Bool):Option (Bool):=
 (B1 s_ f).bind fun Ua=>
 some (decide (0≤Ua))
def tw:SC:=
 .seq
 (.ops [
 ⟨(some 4),(.assign (.const (.bool false))),4,none⟩])
 (.seq
 (.ops [
 ⟨(some 5),(.move (.tmp 0)),23,none⟩,
 ⟨(some 6),(.move (.tmp 1)),73,none⟩,
 ⟨(some 7),(.call ⟨(.value (.func 123)), #[(.tmp 5),(.tmp 6)], #[23,73]⟩),3,none⟩,
 ⟨(some 8),(.binOp .geq 3 (.tmp 7) (.const (.int .i64 0)) 3),4,none⟩,
 ⟨(some 4),(.assign (.tmp 8)),4,none⟩])
 .ret)
theorem bi:Try.f88.body.map (BZ lends)=some tw:=by kernel_rfl
theorem tx:CD Try.f88 2=true:=by kernel_rfl
theorem c88{a l:List D}{r:D×List D}(h:Bw Y.env tw (Ew AE l.length [ResultVar.tmp 4] r) (entry a l))(ha:a.length=2):Y.call 88 a l=some r:=
 AN (Y:=Y) rfl Try.func88 (ha▸tx) bi h
theorem Bz(s_:List Int)(f:Int→Option Bool)(f_f:FuncId)(f_c:List D)(f_h: ∀(a0:Int) (r:Bool),f a0=some r→Y.call f_f (D.int .i64 a0::f_c) []=some (D.bool r,[]))(f_l:lends f_f=false){r:Bool}(h:Ae s_ f=some r):Y.call 88 [D.sl 3 (A8 (D.int .i64) s_),D.clo f_f f_c] []=some (D.bool r,[]):=by
 refine c88 ?_ rfl
 unfold tw
 unfold Ae at h
 obtain⟨Ua,hl1,h⟩:=Bg h
 try dsimp only at h
 have c1:=EA s_ f f_f f_c f_h f_l hl1
 obtain rfl:=Option.some.inj h
 simp (maxDischargeDepth:=9) only [↓A9,A5,AB,AY,A6,AA,AZ,↓reduceIte,Nat.reduceEqDiff,Nat.reduceLT,Nat.reduceLeDiff,Nat.reduceAdd,Nat.reduceMul,Nat.reduceMod,Nat.reduceDiv,Nat.reducePow,Nat.reduceSub,Nat.reduceBEq,Int.reduceLE,Int.reduceLT,Int.reduceEq,Int.reduceSub,Int.reduceAdd,Int.reduceToNat,Int.reduceNeg,f_l,c1]<;>(repeat' apply And.intro)<;>first | rfl | exact⟨_,rfl⟩ | exact⟨_,_,rfl⟩ | simp [A8,A3]
noncomputable def Dp(n_:Int)(c0_:Int)(c1_:Int):Option (Bool):=
 some (!(EC n_ c0_ c1_))
def bj:SC:=
 .seq
 (.ops [
 ⟨(some 4),(.assign (.const (.bool false))),4,none⟩])
 (.seq
 (.ops [
 ⟨(some 5),(.move (.tmp 0)),3,none⟩,
 ⟨(some 6),(.load 3 (.tmp 1)),3,none⟩,
 ⟨(some 7),(.load 3 (.tmp 2)),3,none⟩,
 ⟨(some 8),(.call ⟨(.value (.func 84)), #[(.tmp 5),(.tmp 6),(.tmp 7)], #[3,3,3]⟩),4,none⟩,
 ⟨(some 9),(.unOp .not 4 (.tmp 8)),4,none⟩,
 ⟨(some 4),(.assign (.tmp 9)),4,none⟩])
 .ret)
theorem Vh:Try.f140.body.map (BZ lends)=some bj:=by kernel_rfl
theorem mn:CD Try.f140 3=true:=by kernel_rfl
theorem tz{a l:List D}{r:D×List D}(h:Bw Y.env bj (Ew AE l.length [ResultVar.tmp 4] r) (entry a l))(ha:a.length=3):Y.call 140 a l=some r:=
 AN (Y:=Y) rfl Try.func140 (ha▸mn) Vh h
theorem HL(n_:Int)(c0_:Int)(c1_:Int){r:Bool}(h:Dp n_ c0_ c1_=some r):Y.call 140 [D.int .i64 n_,D.cptr [D.int .i64 c0_],D.cptr [D.int .i64 c1_]] []=some (D.bool r,[]):=by
 refine tz ?_ rfl
 unfold bj
 unfold Dp at h
 have c1:=EV n_ c0_ c1_
 obtain rfl:=Option.some.inj h
 simp (maxDischargeDepth:=9) only [↓A9,A5,AB,AY,A6,AA,AZ,↓reduceIte,Nat.reduceEqDiff,Nat.reduceLT,Nat.reduceLeDiff,Nat.reduceAdd,Nat.reduceMul,Nat.reduceMod,Nat.reduceDiv,Nat.reducePow,Nat.reduceSub,Nat.reduceBEq,Int.reduceLE,Int.reduceLT,Int.reduceEq,Int.reduceSub,Int.reduceAdd,Int.reduceToNat,Int.reduceNeg,c1]<;>(repeat' apply And.intro)<;>first | rfl | exact⟨_,rfl⟩ | exact⟨_,_,rfl⟩ | simp [A8,A3]
noncomputable def FI(list:List Int)(low:Int)(high:Int):Option (Bool):=
 (Ae list (fun a0=>Dp a0 low high)).bind fun Ua=>
 some (!Ua)
def bk:SC:=
 .seq
 (.ops [
 ⟨(some 4),(.box 3 (.tmp 1)),0,none⟩,
 ⟨(some 5),(.box 3 (.tmp 2)),0,none⟩,
 ⟨(some 6),(.assign (.const (.bool false))),4,none⟩])
 (.seq
 (.ops [
 ⟨(some 7),(.move (.tmp 0)),23,none⟩,
 ⟨(some 8),(.makeFunc (Fn.func 140) #[] #[(.tmp 4),(.tmp 5)]),73,none⟩,
 ⟨(some 9),(.call ⟨(.value (.func 88)), #[(.tmp 7),(.tmp 8)], #[23,73]⟩),4,none⟩,
 ⟨(some 10),(.unOp .not 4 (.tmp 9)),4,none⟩,
 ⟨(some 6),(.assign (.tmp 10)),4,none⟩])
 .ret)
theorem Vi:Try.f122.body.map (BZ lends)=some bk:=by kernel_rfl
theorem mo:CD Try.f122 3=true:=by kernel_rfl
theorem u4{a l:List D}{r:D×List D}(h:Bw Y.env bk (Ew AE l.length [ResultVar.tmp 6] r) (entry a l))(ha:a.length=3):Y.call 122 a l=some r:=
 AN (Y:=Y) rfl Try.func122 (ha▸mo) Vi h
theorem IR(list:List Int)(low:Int)(high:Int){r:Bool}(h:FI list low high=some r):Y.call 122 [D.sl 3 (A8 (D.int .i64) list),D.int .i64 low,D.int .i64 high] []=some (D.bool r,[]):=by
 refine u4 ?_ rfl
 unfold bk
 unfold FI at h
 obtain⟨Ua,hl1,h⟩:=Bg h
 try dsimp only at h
 have c1:=Bz list (fun a0=>Dp a0 low high) 140 [D.cptr [D.int .i64 low],D.cptr [D.int .i64 high]] (fun a0 _ hh=>HL a0 low high hh) Tv hl1
 obtain rfl:=Option.some.inj h
 simp (maxDischargeDepth:=9) only [↓A9,A5,AB,AY,A6,AA,AZ,↓reduceIte,Nat.reduceEqDiff,Nat.reduceLT,Nat.reduceLeDiff,Nat.reduceAdd,Nat.reduceMul,Nat.reduceMod,Nat.reduceDiv,Nat.reducePow,Nat.reduceSub,Nat.reduceBEq,Int.reduceLE,Int.reduceLT,Int.reduceEq,Int.reduceSub,Int.reduceAdd,Int.reduceToNat,Int.reduceNeg,c1]<;>(repeat' apply And.intro)<;>first | rfl | exact⟨_,rfl⟩ | exact⟨_,_,rfl⟩ | simp [A8,A3]
theorem Mo(l:List Int)(f:Int→Option Bool)(p:Int→Bool)(h:l.length<1099511627776)(hf: ∀x∈l,f x=some (p x)):
  ∃r,B1 l f=some r∧(0≤r↔l.any p=true):=by
 unfold B1 BC
 by_cases ha: ∀i,i<l.length→(!p (l.getD i default))=true
 ·have key:=G3 (fun v=>AL l f v) (fun i=>(i:Int)) l.length (.inr ()) ?_ ?_
  ·simp only [Int.natCast_zero]at key
   rw [key]
   refine⟨-1,rfl,by simp,fun hc=> ?_⟩
   obtain⟨x,hx,hpx⟩:=List.any_eq_true.1 hc
   obtain⟨i,hi,rfl⟩:=List.getElem_of_mem hx
   have:=ha i hi
   rw [B0 _ _ hi,hpx]at this;cases this
  ·intro i hi
   simp only [AL]
   have e:=ha i hi
   rw [B0 _ _ hi]at e
   rw [if_pos (CE hi),C3 (E9 hi),E8 _ _ hi,hf _ (List.getElem_mem hi),Option.bind_some,if_neg (by cases hp:p l[i]<;>simp_all),KQ i (by omega)]
  ·simp only [AL];rw [if_neg (Am _)]
 ·obtain⟨m,h1,h2,h3⟩:=KO (P:=fun i=> !p (l.getD i default)) ha
  have key:=G3 (fun v=>AL l f v) (fun i=>(i:Int)) m (.inl (m:Int)) ?_ ?_
  ·simp only [Int.natCast_zero]at key
   rw [key]
   refine⟨(m:Int),rfl,fun _=> ?_,fun _=>by omega⟩
   have h2':p l[m]=true:=by rw [B0 _ _ h1]at h2;simpa using h2
   exact List.any_eq_true.2 ⟨_,List.getElem_mem h1,h2'⟩
  ·intro i hi
   simp only [AL]
   have e:=h3 i hi
   rw [B0 _ _ (by omega)]at e
   rw [if_pos (CE (by omega)),C3 (E9 (by omega)),E8 _ _ (by omega),hf _ (List.getElem_mem _),Option.bind_some,if_neg (by cases hp:p l[i]<;>simp_all),KQ i (by omega)]
  ·simp only [AL]
   have h2':p l[m]=true:=by rw [B0 _ _ h1]at h2;simpa using h2
   rw [if_pos (CE h1),C3 (E9 h1),E8 _ _ h1,hf _ (List.getElem_mem _),Option.bind_some,if_pos h2']
theorem GE(l:List Int)(f:Int→Option Bool)(p:Int→Bool)(h:l.length<1099511627776)(hf: ∀x∈l,f x=some (p x)):Ae l f=some (l.any p):=by
 obtain⟨r,h1,h2⟩:=Mo l f p h hf
 unfold Ae
 rw [h1,Option.bind_some]
 congr 1
 rw [Bool.eq_iff_iff];simpa using h2
theorem KU(l:List Int)(lo hi:Int)(h:l.length<1099511627776):FI l lo hi=some (Dz l lo hi):=by
 unfold FI
 rw [GE l (fun a0=>Dp a0 lo hi) (fun x=> !EC x lo hi) h (fun x _=>rfl),Option.bind_some]
 unfold Dz
 rw [List.all_eq_not_any_not]
theorem KV(list:List Int)(low:Int)(high:Int)(h0:list.length<1099511627776):Y.call 122 [D.sl 3 (A8 (D.int .i64) list),D.int .i64 low,D.int .i64 high] []=some (D.bool (Dz list low high),[]):=IR list low high (KU list low high h0)
theorem Iv.getD{l:List (List Int)}(h:Iv l)(i:Nat):(l.getD i default).length<1099511627776:=by
 rcases Nat.lt_or_ge i l.length with hi | hi
 ·rw [B0 _ _ hi];exact h.at i hi
 ·rw [List.getD_eq_getElem?_getD,List.getElem?_eq_none hi];decide
end Go.Proofs.Ytjjahjjhohcidaa
