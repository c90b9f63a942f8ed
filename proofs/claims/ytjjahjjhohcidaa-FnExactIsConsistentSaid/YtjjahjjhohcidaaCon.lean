/- Membership of a number, as a plain function. Conditions: the list is short. -/
import Derived.Test.YtjjahjjhohcidaaL6
import Derived.Test.YtjjahjjhohcidaaIsP
namespace Go.Proofs.Ytjjahjjhohcidaa
open Go Dv
set_option linter.unusedSimpArgs false
set_option linter.unusedVariables false
set_option maxRecDepth 100000
set_option maxHeartbeats 4000000
noncomputable def Db(l:List Int)(n_:Int)(Gv:Int):Option ((Int)⊕(Unit⊕Unit)):=
 if Gv<(l.length:Int)then
  ck (0≤Gv∧Gv.toNat<l.length)<|
  if(l.getD Gv.toNat default)=n_ then
   some (Sum.inr (Sum.inl ()))
  else
   some (Sum.inl (IntKind.i64.wrap (Gv+1)))
 else
  some (Sum.inr (Sum.inr ()))
noncomputable def G6(l:List Int)(n_:Int)(v:Int):Option (Unit⊕Unit):=Gc (fun v=>Db l n_ v) v
noncomputable def JP(l:List Int)(n_:Int):Option (Bool):=
 (G6 l n_ 0).bind fun JO=>
 match JO with
 | .inl q2_=>
  some true
 | .inr q2_=>
  some false
def Mq:SC:=
 .seq
 (.ops [
 ⟨(some 10),(.binOp .lss 3 (.tmp 9) (.tmp 8) 3),0,none⟩])
 (.seq
 (.cond (.tmp 10)
 .skip
 (.exit 0))
 (.seq
 (.block 1
 (.seq
 (.ops [
 ⟨(some 11),(.indexAddr 23 (.tmp 7) (.tmp 9)),0,none⟩,
 ⟨(some 12),(.load 3 (.tmp 11)),3,none⟩,
 ⟨(some 6),(.assign (.tmp 12)),3,none⟩])
 (.seq
 (.ops [
 ⟨(some 13),(.move (.tmp 6)),3,none⟩,
 ⟨(some 14),(.move (.tmp 1)),3,none⟩,
 ⟨(some 15),(.binOp .eql 3 (.tmp 13) (.tmp 14) 3),4,none⟩])
 (.cond (.tmp 15)
 (.seq
 (.ops [
 ⟨(some 4),(.assign (.const (.bool true))),4,none⟩])
 .ret)
 .skip))))
 (.ops [
 ⟨(some 16),(.binOp .add 3 (.tmp 9) (.const (.int .i64 1)) 3),3,none⟩,
 ⟨(some 9),(.move (.tmp 16)),3,none⟩])))
def U6:SC:= .loop Mq
def u5:SC:=
 .seq
 (.ops [
 ⟨(some 4),(.assign (.const (.bool false))),4,none⟩])
 (.seq
 (.seq
 (.ops [
 ⟨(some 7),(.move (.tmp 0)),23,none⟩,
 ⟨(some 8),(.call ⟨(.builtin .len), #[(.tmp 7)], #[23]⟩),3,none⟩,
 ⟨(some 9),(.move (.const (.int .i64 0))),3,none⟩])
 (.block 0
 U6))
 (.seq
 (.ops [
 ⟨(some 4),(.assign (.const (.bool false))),4,none⟩])
 .ret))
theorem bl:Try.f92.body.map (BZ lends)=some u5:=by kernel_rfl
theorem u6:CD Try.f92 2=true:=by kernel_rfl
theorem c92{a l:List D}{r:D×List D}(h:Bw Y.env u5 (Ew AE l.length [ResultVar.tmp 4] r) (entry a l))(ha:a.length=2):Y.call 92 a l=some r:=
 AN (Y:=Y) rfl Try.func92 (ha▸u6) bl h
def Co(l:List Int)(n_:Int)(Gv:Int)(s:St):Prop:=s.v 1=D.int .i64 n_∧s.v 7=D.sl 3 (A8 (D.int .i64) l)∧s.v 8=D.int .i64 (l.length:Int)∧s.v 9=D.int .i64 Gv
def Cp(l:List Int)(n_:Int)(r:Unit⊕Unit)(ex:Ex)(s:St):Prop:=match r with
 | .inl q=>ex= .ret∧s.v 4=D.bool true
 | .inr q=>ex= .exit 0
theorem LG(l:List Int)(n_:Int){v:Int}{s:St}{r:Unit⊕Unit}(h:G6 l n_ v=some r)(hM:Co l n_ v s):Bw Y.env U6 (Cp l n_ r) s:=by
 unfold G6 at h
 refine CO (c:=Mq) (fun v=>Db l n_ v) (fun v s=>Co l n_ v s) (Cp l n_) ?_ h hM
 clear h hM s v r
 intro Gv s o hM h
 unfold Db at h
 unfold Co at hM
 obtain⟨m0,m1,m2,m3⟩:=hM
 unfold Mq
 by_cases e1:Gv<(l.length:Int)
 ·rw [if_pos e1]at h
  obtain⟨e2,h⟩:=C7 h
  by_cases e3:(l.getD Gv.toNat default)=n_
  ·rw [if_pos e3]at h
   obtain rfl:=Option.some.inj h
   simp (maxDischargeDepth:=9) only [↓A9,A5,AB,AY,A6,AA,AZ,↓reduceIte,Nat.reduceEqDiff,Nat.reduceLT,Nat.reduceLeDiff,Nat.reduceAdd,Nat.reduceMul,Nat.reduceMod,Nat.reduceDiv,Nat.reducePow,Nat.reduceSub,Nat.reduceBEq,Int.reduceLE,Int.reduceLT,Int.reduceEq,Int.reduceSub,Int.reduceAdd,Int.reduceToNat,Int.reduceNeg,m0,m1,m2,m3,e1,e2.1,e2.2,decide_eq_true e3,Co,Cp,D6,D7,D8]<;>(repeat' apply And.intro)<;>first | rfl | exact⟨_,rfl⟩ | exact⟨_,_,rfl⟩ | simp [A8,A3]
  ·rw [if_neg e3]at h
   obtain rfl:=Option.some.inj h
   simp (maxDischargeDepth:=9) only [↓A9,A5,AB,AY,A6,AA,AZ,↓reduceIte,Nat.reduceEqDiff,Nat.reduceLT,Nat.reduceLeDiff,Nat.reduceAdd,Nat.reduceMul,Nat.reduceMod,Nat.reduceDiv,Nat.reducePow,Nat.reduceSub,Nat.reduceBEq,Int.reduceLE,Int.reduceLT,Int.reduceEq,Int.reduceSub,Int.reduceAdd,Int.reduceToNat,Int.reduceNeg,m0,m1,m2,m3,e1,e2.1,e2.2,e3,Co,Cp,D6,D7,D8]<;>(repeat' apply And.intro)<;>first | rfl | exact⟨_,rfl⟩ | exact⟨_,_,rfl⟩ | simp [A8,A3]
 ·rw [if_neg e1]at h
  obtain rfl:=Option.some.inj h
  simp (maxDischargeDepth:=9) only [↓A9,A5,AB,AY,A6,AA,AZ,↓reduceIte,Nat.reduceEqDiff,Nat.reduceLT,Nat.reduceLeDiff,Nat.reduceAdd,Nat.reduceMul,Nat.reduceMod,Nat.reduceDiv,Nat.reducePow,Nat.reduceSub,Nat.reduceBEq,Int.reduceLE,Int.reduceLT,Int.reduceEq,Int.reduceSub,Int.reduceAdd,Int.reduceToNat,Int.reduceNeg,m0,m1,m2,m3,e1,Co,Cp,D6,D7,D8]<;>(repeat' apply And.intro)<;>first | rfl | exact⟨_,rfl⟩ | exact⟨_,_,rfl⟩ | simp [A8,A3]
theorem Mr(l:List Int)(n_:Int){r:Bool}(h:JP l n_=some r):Y.call 92 [D.sl 3 (A8 (D.int .i64) l),D.int .i64 n_] []=some (D.bool r,[]):=by
 refine c92 ?_ rfl
 unfold u5
 unfold JP at h
 obtain⟨JO,hl2,h⟩:=Bg h
 try dsimp only at h
 simp (maxDischargeDepth:=9) only [↓A9,A5,AB,AY,A6,AA,AZ,↓reduceIte,Nat.reduceEqDiff,Nat.reduceLT,Nat.reduceLeDiff,Nat.reduceAdd,Nat.reduceMul,Nat.reduceMod,Nat.reduceDiv,Nat.reducePow,Nat.reduceSub,Nat.reduceBEq,Int.reduceLE,Int.reduceLT,Int.reduceEq,Int.reduceSub,Int.reduceAdd,Int.reduceToNat,Int.reduceNeg]
 refine Ba (LG l n_ hl2 ?_) ?_
 ·simp (maxDischargeDepth:=9) only [↓A9,A5,AB,AY,A6,AA,AZ,↓reduceIte,Nat.reduceEqDiff,Nat.reduceLT,Nat.reduceLeDiff,Nat.reduceAdd,Nat.reduceMul,Nat.reduceMod,Nat.reduceDiv,Nat.reducePow,Nat.reduceSub,Nat.reduceBEq,Int.reduceLE,Int.reduceLT,Int.reduceEq,Int.reduceSub,Int.reduceAdd,Int.reduceToNat,Int.reduceNeg,Co]<;>(repeat' apply And.intro)<;>first | rfl | exact⟨_,rfl⟩ | exact⟨_,_,rfl⟩ | simp [A8,A3]
 ·intro ex2 s2 hX2
  rcases JO with q2_ | q2_
  ·unfold Cp at hX2
   dsimp only at hX2 h
   obtain⟨rfl,n2_0⟩:=hX2
   obtain rfl:=Option.some.inj h
   simp (maxDischargeDepth:=9) only [↓A9,A5,AB,AY,A6,AA,AZ,↓reduceIte,Nat.reduceEqDiff,Nat.reduceLT,Nat.reduceLeDiff,Nat.reduceAdd,Nat.reduceMul,Nat.reduceMod,Nat.reduceDiv,Nat.reducePow,Nat.reduceSub,Nat.reduceBEq,Int.reduceLE,Int.reduceLT,Int.reduceEq,Int.reduceSub,Int.reduceAdd,Int.reduceToNat,Int.reduceNeg,n2_0]<;>(repeat' apply And.intro)<;>first | rfl | exact⟨_,rfl⟩ | exact⟨_,_,rfl⟩ | simp [A8,A3]
  ·unfold Cp at hX2
   dsimp only at hX2 h
   obtain rfl:=hX2
   obtain rfl:=Option.some.inj h
   simp (maxDischargeDepth:=9) only [↓A9,A5,AB,AY,A6,AA,AZ,↓reduceIte,Nat.reduceEqDiff,Nat.reduceLT,Nat.reduceLeDiff,Nat.reduceAdd,Nat.reduceMul,Nat.reduceMod,Nat.reduceDiv,Nat.reducePow,Nat.reduceSub,Nat.reduceBEq,Int.reduceLE,Int.reduceLT,Int.reduceEq,Int.reduceSub,Int.reduceAdd,Int.reduceToNat,Int.reduceNeg]<;>(repeat' apply And.intro)<;>first | rfl | exact⟨_,rfl⟩ | exact⟨_,_,rfl⟩ | simp [A8,A3]
theorem QP(l:List Int)(n:Int)(h:l.length<1099511627776):JP l n=some (l.contains n):=by
 unfold JP G6
 have key:=CT (fun v=>Db l n v) (fun i=>(i:Int)) l.length (fun i=> !decide (l.getD i default=n)) (.inl ()) (.inr ()) ?_ ?_
 ·simp only [Int.natCast_zero]at key
  rw [key,Ob (fun x=> !decide (x=n))]
  have e:l.all (fun x=> !decide (x=n))= !l.contains n:=by
   rw [List.all_eq_not_any_not,List.contains_eq_any_beq]
   congr 2
   funext x
   rw [Bool.not_not,Bool.eq_iff_iff,decide_eq_true_eq,beq_iff_eq]
   exact eq_comm
  rw [e]
  cases l.contains n<;>rfl
 ·intro i hi
  simp only [Db]
  rw [if_pos (CE hi),C3 (E9 hi),Int.toNat_natCast,KQ i (by omega)]
  by_cases hq:l.getD i default=n
  ·rw [if_pos hq,decide_eq_true hq];rfl
  ·rw [if_neg hq,decide_eq_false hq];rfl
 ·simp only [Db];rw [if_neg (Am _)]
theorem QQ(l:List Int)(n_:Int)(h0:l.length<1099511627776):Y.call 92 [D.sl 3 (A8 (D.int .i64) l),D.int .i64 n_] []=some (D.bool (l.contains n_),[]):=Mr l n_ (QP l n_ h0)
end Go.Proofs.Ytjjahjjhohcidaa
