/- Copies, comparisons, sizes and marks of numbers in lists, as plain functions. Conditions: the lists are short. -/
import Derived.Test.YtjjahjjhohcidaaL6
import Derived.Test.YtjjahjjhohcidaaDt
namespace Go.Proofs.Ytjjahjjhohcidaa
open Go Dv
set_option linter.unusedSimpArgs false
set_option linter.unusedVariables false
set_option maxRecDepth 100000
set_option maxHeartbeats 4000000
def Iv(l:List (List Int)):Prop:=l.length<1099511627776∧ ∀x∈l,x.length<1099511627776
theorem Iv.nil:Iv []:=⟨by decide,fun _ h=>by cases h⟩
theorem Iv.at{l:List (List Int)}(h:Iv l)(i:Nat)(hi:i<l.length):l[i].length<1099511627776:=h.2 _ (List.getElem_mem hi)
instance (l:List (List Int)):Decidable (Iv l):=by unfold Iv;infer_instance
theorem Mi{α:Type}[Inhabited α](xs:List α)(i:Nat)(h:i<xs.length)(z:α):(xs.take i++List.replicate (xs.length-i) z).set i xs[i]=xs.take (i+1)++List.replicate (xs.length-(i+1)) z:=by
 have e:xs.length-i=(xs.length-(i+1))+1:=by omega
 rw [e,List.replicate_succ,List.set_append_right _ _ (by simp;omega),List.take_succ_eq_append_getElem h]
 have:i-(xs.take i).length=0:=by simp;omega
 rw [this,List.set_cons_zero,List.append_assoc];rfl
noncomputable def Cy(a:List Int)(out:List Int)(i:Int):Option (((List Int)×Int)⊕((List Int))):=
 if i<(a.length:Int)then
  ck (0≤i∧i.toNat<a.length)<|
  ck (0≤i∧i.toNat<out.length)<|
  some (Sum.inl ((out.set i.toNat (a.getD i.toNat default)),IntKind.i64.wrap (i+1)))
 else
  some (Sum.inr out)
noncomputable def FG(a:List Int)(v:(List Int)×Int):Option ((List Int)):=Gc (fun v=>Cy a v.1 v.2) v
noncomputable def Hw(a:List Int):Option ((List Int)):=
 ck (0≤(a.length:Int)∧(a.length:Int)<1099511627776)<|
 (FG a ((List.replicate a.length 0),0)).bind fun H0=>
 some H0
def Mj:SC:=
 .seq
 (.seq
 (.ops [
 ⟨(some 8),(.move (.tmp 4)),3,none⟩,
 ⟨(some 9),(.move (.tmp 0)),23,none⟩,
 ⟨(some 10),(.call ⟨(.builtin .len), #[(.tmp 9)], #[23]⟩),3,none⟩,
 ⟨(some 11),(.binOp .lss 3 (.tmp 8) (.tmp 10) 3),4,none⟩])
 (.cond (.tmp 11)
 .skip
 (.exit 0)))
 (.seq
 (.block 1
 (.ops [
 ⟨(some 14),(.move (.tmp 3)),23,none⟩,
 ⟨(some 15),(.move (.tmp 4)),3,none⟩,
 ⟨(some 16),(.move (.tmp 0)),23,none⟩,
 ⟨(some 17),(.move (.tmp 4)),3,none⟩,
 ⟨(some 18),(.indexAddr 23 (.tmp 16) (.tmp 17)),0,none⟩,
 ⟨(some 19),(.load 3 (.tmp 18)),3,none⟩,
 ⟨(some 20),(.indexAddr 23 (.tmp 14) (.tmp 15)),0,none⟩,
 ⟨none,(.store 3 (.tmp 20) (.tmp 19)),0,none⟩]))
 (.ops [
 ⟨(some 12),(.move (.tmp 4)),3,none⟩,
 ⟨(some 13),(.binOp .add 3 (.tmp 12) (.const (.int .i64 1)) 3),3,none⟩,
 ⟨(some 4),(.assign (.tmp 13)),3,none⟩]))
def U2:SC:= .loop Mj
def tY:SC:=
 .seq
 (.ops [
 ⟨(some 2),(.assign (.const (.slice none 0 0))),23,none⟩])
 (.seq
 (.ops [
 ⟨(some 5),(.move (.tmp 0)),23,none⟩,
 ⟨(some 6),(.call ⟨(.builtin .len), #[(.tmp 5)], #[23]⟩),3,none⟩,
 ⟨(some 7),(.makeSlice 23 (.tmp 6) (.tmp 6)),23,none⟩,
 ⟨(some 3),(.assign (.tmp 7)),23,none⟩])
 (.seq
 (.seq
 (.ops [
 ⟨(some 4),(.assign (.const (.int .i64 0))),3,none⟩])
 (.block 0
 U2))
 (.seq
 (.ops [
 ⟨(some 21),(.move (.tmp 3)),23,none⟩,
 ⟨(some 2),(.assign (.tmp 21)),23,none⟩])
 .ret)))
theorem ba:Try.f13.body.map (BZ lends)=some tY:=by kernel_rfl
theorem tZ:CD Try.f13 1=true:=by kernel_rfl
theorem Lz{a l:List D}{r:D×List D}(h:Bw Y.env tY (Ew AE l.length [ResultVar.tmp 2] r) (entry a l))(ha:a.length=1):Y.call 13 a l=some r:=
 AN (Y:=Y) rfl Try.func13 (ha▸tZ) ba h
def Cz(a:List Int)(out:List Int)(i:Int)(s:St):Prop:=s.v 0=D.sl 3 (A8 (D.int .i64) a)∧s.v 3=D.own 3 (A8 (D.int .i64) out)∧s.v 4=D.int .i64 i
def Do(a:List Int)(r:(List Int))(ex:Ex)(s:St):Prop:=ex= .exit 0∧s.v 3=D.own 3 (A8 (D.int .i64) r)
theorem KR(a:List Int){v:(List Int)×Int}{s:St}{r:(List Int)}(h:FG a v=some r)(hM:Cz a v.1 v.2 s):Bw Y.env U2 (Do a r) s:=by
 unfold FG at h
 refine CO (c:=Mj) (fun v=>Cy a v.1 v.2) (fun v s=>Cz a v.1 v.2 s) (Do a) ?_ h hM
 clear h hM s v r
 intro v s o hM h
 obtain⟨out,i⟩:=v
 dsimp only at h hM
 unfold Cy at h
 unfold Cz at hM
 obtain⟨m0,m1,m2⟩:=hM
 unfold Mj
 by_cases e2:i<(a.length:Int)
 ·rw [if_pos e2]at h
  obtain⟨e3,h⟩:=C7 h
  obtain⟨e4,h⟩:=C7 h
  obtain rfl:=Option.some.inj h
  simp (maxDischargeDepth:=9) only [↓A9,A5,AB,AY,A6,AA,AZ,↓reduceIte,Nat.reduceEqDiff,Nat.reduceLT,Nat.reduceLeDiff,Nat.reduceAdd,Nat.reduceMul,Nat.reduceMod,Nat.reduceDiv,Nat.reducePow,Nat.reduceSub,Nat.reduceBEq,Int.reduceLE,Int.reduceLT,Int.reduceEq,Int.reduceSub,Int.reduceAdd,Int.reduceToNat,Int.reduceNeg,m0,m1,m2,e2,e3.1,e3.2,e4.1,e4.2,Cz,Do,D6,D7,D8]<;>(repeat' apply And.intro)<;>first | rfl | exact⟨_,rfl⟩ | exact⟨_,_,rfl⟩ | simp [A8,A3]
 ·rw [if_neg e2]at h
  obtain rfl:=Option.some.inj h
  simp (maxDischargeDepth:=9) only [↓A9,A5,AB,AY,A6,AA,AZ,↓reduceIte,Nat.reduceEqDiff,Nat.reduceLT,Nat.reduceLeDiff,Nat.reduceAdd,Nat.reduceMul,Nat.reduceMod,Nat.reduceDiv,Nat.reducePow,Nat.reduceSub,Nat.reduceBEq,Int.reduceLE,Int.reduceLT,Int.reduceEq,Int.reduceSub,Int.reduceAdd,Int.reduceToNat,Int.reduceNeg,m0,m1,m2,e2,Cz,Do,D6,D7,D8]<;>(repeat' apply And.intro)<;>first | rfl | exact⟨_,rfl⟩ | exact⟨_,_,rfl⟩ | simp [A8,A3]
theorem LB(a:List Int){r:(List Int)}(h:Hw a=some r):Y.call 13 [D.sl 3 (A8 (D.int .i64) a)] []=some (D.own 3 (A8 (D.int .i64) r),[]):=by
 refine Lz ?_ rfl
 unfold tY
 unfold Hw at h
 obtain⟨e1,h⟩:=C7 h
 obtain⟨H0,hl3,h⟩:=Bg h
 try dsimp only at h
 simp (maxDischargeDepth:=9) only [↓A9,A5,AB,AY,A6,AA,AZ,↓reduceIte,Nat.reduceEqDiff,Nat.reduceLT,Nat.reduceLeDiff,Nat.reduceAdd,Nat.reduceMul,Nat.reduceMod,Nat.reduceDiv,Nat.reducePow,Nat.reduceSub,Nat.reduceBEq,Int.reduceLE,Int.reduceLT,Int.reduceEq,Int.reduceSub,Int.reduceAdd,Int.reduceToNat,Int.reduceNeg,e1.1,e1.2]
 refine Ba (KR a hl3 ?_) ?_
 ·simp (maxDischargeDepth:=9) only [↓A9,A5,AB,AY,A6,AA,AZ,↓reduceIte,Nat.reduceEqDiff,Nat.reduceLT,Nat.reduceLeDiff,Nat.reduceAdd,Nat.reduceMul,Nat.reduceMod,Nat.reduceDiv,Nat.reducePow,Nat.reduceSub,Nat.reduceBEq,Int.reduceLE,Int.reduceLT,Int.reduceEq,Int.reduceSub,Int.reduceAdd,Int.reduceToNat,Int.reduceNeg,e1.1,e1.2,Cz]<;>(repeat' apply And.intro)<;>first | rfl | exact⟨_,rfl⟩ | exact⟨_,_,rfl⟩ | simp [A8,A3]
 ·intro ex3 s3 hX3
  unfold Do at hX3
  obtain⟨rfl,n3_0⟩:=hX3
  obtain rfl:=Option.some.inj h
  simp (maxDischargeDepth:=9) only [↓A9,A5,AB,AY,A6,AA,AZ,↓reduceIte,Nat.reduceEqDiff,Nat.reduceLT,Nat.reduceLeDiff,Nat.reduceAdd,Nat.reduceMul,Nat.reduceMod,Nat.reduceDiv,Nat.reducePow,Nat.reduceSub,Nat.reduceBEq,Int.reduceLE,Int.reduceLT,Int.reduceEq,Int.reduceSub,Int.reduceAdd,Int.reduceToNat,Int.reduceNeg,e1.1,e1.2,n3_0]<;>(repeat' apply And.intro)<;>first | rfl | exact⟨_,rfl⟩ | exact⟨_,_,rfl⟩ | simp [A8,A3]
theorem Og(a:List Int)(h:a.length<1099511627776):Hw a=some a:=by
 have key:=G3 (fun v=>Cy a v.1 v.2) (fun i=>(a.take i++List.replicate (a.length-i) 0,(i:Int))) a.length a ?_ ?_
 ·unfold Hw FG
  rw [C3 (by omega)]
  simp only [List.take_zero,List.nil_append,Nat.sub_zero,Int.natCast_zero]at key
  rw [key];rfl
 ·intro i hi
  simp only [Cy]
  rw [if_pos (CE hi),C3 (E9 hi),C3 (E9 (by simp;omega)),E8 _ _ hi,Int.toNat_natCast,Mi a i hi 0,KQ i (by omega)]
 ·simp only [Cy]
  rw [if_neg (Am _)];simp
theorem Cj(a:List Int)(h0:a.length<1099511627776):Y.call 13 [D.sl 3 (A8 (D.int .i64) a)] []=some (D.own 3 (A8 (D.int .i64) a),[]):=LB a (Og a h0)
noncomputable def D0(a:List Int)(b:List Int)(i:Int):Option ((Int)⊕(Unit⊕Unit)):=
 if i<(a.length:Int)then
  ck (0≤i∧i.toNat<a.length)<|
  ck (0≤i∧i.toNat<b.length)<|
  if(a.getD i.toNat default)=(b.getD i.toNat default)then
   some (Sum.inl (IntKind.i64.wrap (i+1)))
  else
   some (Sum.inr (Sum.inl ()))
 else
  some (Sum.inr (Sum.inr ()))
noncomputable def FH(a:List Int)(b:List Int)(v:Int):Option (Unit⊕Unit):=Gc (fun v=>D0 a b v) v
noncomputable def Hx(a:List Int)(b:List Int):Option (Bool):=
 if(a.length:Int)=(b.length:Int)then
  (FH a b 0).bind fun H0=>
  match H0 with
  | .inl q3_=>
   some false
  | .inr q3_=>
   some true
 else
  some false
def Mk:SC:=
 .seq
 (.seq
 (.ops [
 ⟨(some 11),(.move (.tmp 5)),3,none⟩,
 ⟨(some 12),(.move (.tmp 0)),23,none⟩,
 ⟨(some 13),(.call ⟨(.builtin .len), #[(.tmp 12)], #[23]⟩),3,none⟩,
 ⟨(some 14),(.binOp .lss 3 (.tmp 11) (.tmp 13) 3),4,none⟩])
 (.cond (.tmp 14)
 .skip
 (.exit 0)))
 (.seq
 (.block 1
 (.seq
 (.draws [
 (⟨[17,0,0],[17,18,19,20,21,22,23,24,25],[17]⟩,⟨(some 17),(.move (.tmp 0)),23,none⟩),
 (⟨[18,5,5],[17,18,19,20,21,22,23,24,25],[18]⟩,⟨(some 18),(.move (.tmp 5)),3,none⟩),
 (⟨[19,17,18,0,5],[17,18,19,20,21,22,23,24,25],[19]⟩,⟨(some 19),(.indexAddr 23 (.tmp 17) (.tmp 18)),0,none⟩),
 (⟨[20,19,0],[17,18,19,20,21,22,23,24,25],[20]⟩,⟨(some 20),(.load 3 (.tmp 19)),3,none⟩),
 (⟨[21,1,1],[17,18,19,20,21,22,23,24,25],[21]⟩,⟨(some 21),(.move (.tmp 1)),23,none⟩),
 (⟨[22,5,5],[17,18,19,20,21,22,23,24,25],[22]⟩,⟨(some 22),(.move (.tmp 5)),3,none⟩),
 (⟨[23,21,22,1,5],[17,18,19,20,21,22,23,24,25],[23]⟩,⟨(some 23),(.indexAddr 23 (.tmp 21) (.tmp 22)),0,none⟩),
 (⟨[24,23,1],[17,18,19,20,21,22,23,24,25],[24]⟩,⟨(some 24),(.load 3 (.tmp 23)),3,none⟩),
 (⟨[25,20,24,0,1],[17,18,19,20,21,22,23,24,25],[25]⟩,⟨(some 25),(.binOp .neq 3 (.tmp 20) (.tmp 24) 3),4,none⟩)])
 (.cond (.tmp 25)
 (.seq
 (.ops [
 ⟨(some 4),(.assign (.const (.bool false))),4,none⟩])
 .ret)
 .skip)))
 (.ops [
 ⟨(some 15),(.move (.tmp 5)),3,none⟩,
 ⟨(some 16),(.binOp .add 3 (.tmp 15) (.const (.int .i64 1)) 3),3,none⟩,
 ⟨(some 5),(.assign (.tmp 16)),3,none⟩]))
def U3:SC:= .loop Mk
def ta:SC:=
 .seq
 (.ops [
 ⟨(some 4),(.assign (.const (.bool false))),4,none⟩])
 (.seq
 (.seq
 (.ops [
 ⟨(some 6),(.move (.tmp 0)),23,none⟩,
 ⟨(some 7),(.call ⟨(.builtin .len), #[(.tmp 6)], #[23]⟩),3,none⟩,
 ⟨(some 8),(.move (.tmp 1)),23,none⟩,
 ⟨(some 9),(.call ⟨(.builtin .len), #[(.tmp 8)], #[23]⟩),3,none⟩,
 ⟨(some 10),(.binOp .neq 3 (.tmp 7) (.tmp 9) 3),4,none⟩])
 (.cond (.tmp 10)
 (.seq
 (.ops [
 ⟨(some 4),(.assign (.const (.bool false))),4,none⟩])
 .ret)
 .skip))
 (.seq
 (.seq
 (.ops [
 ⟨(some 5),(.assign (.const (.int .i64 0))),3,none⟩])
 (.block 0
 U3))
 (.seq
 (.ops [
 ⟨(some 4),(.assign (.const (.bool true))),4,none⟩])
 .ret)))
theorem bb:Try.f16.body.map (BZ lends)=some ta:=by kernel_rfl
theorem td:CD Try.f16 2=true:=by kernel_rfl
theorem P1{a l:List D}{r:D×List D}(h:Bw Y.env ta (Ew AE l.length [ResultVar.tmp 4] r) (entry a l))(ha:a.length=2):Y.call 16 a l=some r:=
 AN (Y:=Y) rfl Try.func16 (ha▸td) bb h
def CP(a:List Int)(b:List Int)(i:Int)(s:St):Prop:=s.v 0=D.sl 3 (A8 (D.int .i64) a)∧s.v 1=D.sl 3 (A8 (D.int .i64) b)∧s.v 5=D.int .i64 i
def CQ(a:List Int)(b:List Int)(r:Unit⊕Unit)(ex:Ex)(s:St):Prop:=match r with
 | .inl q=>ex= .ret∧s.v 4=D.bool false
 | .inr q=>ex= .exit 0
theorem KS(a:List Int)(b:List Int){v:Int}{s:St}{r:Unit⊕Unit}(h:FH a b v=some r)(hM:CP a b v s):Bw Y.env U3 (CQ a b r) s:=by
 unfold FH at h
 refine CO (c:=Mk) (fun v=>D0 a b v) (fun v s=>CP a b v s) (CQ a b) ?_ h hM
 clear h hM s v r
 intro i s o hM h
 unfold D0 at h
 unfold CP at hM
 obtain⟨m0,m1,m2⟩:=hM
 unfold Mk
 by_cases e2:i<(a.length:Int)
 ·rw [if_pos e2]at h
  obtain⟨e3,h⟩:=C7 h
  obtain⟨e4,h⟩:=C7 h
  by_cases e5:(a.getD i.toNat default)=(b.getD i.toNat default)
  ·rw [if_pos e5]at h
   obtain rfl:=Option.some.inj h
   simp (maxDischargeDepth:=9) only [↓A9,A5,AB,AY,A6,AA,AZ,↓reduceIte,Nat.reduceEqDiff,Nat.reduceLT,Nat.reduceLeDiff,Nat.reduceAdd,Nat.reduceMul,Nat.reduceMod,Nat.reduceDiv,Nat.reducePow,Nat.reduceSub,Nat.reduceBEq,Int.reduceLE,Int.reduceLT,Int.reduceEq,Int.reduceSub,Int.reduceAdd,Int.reduceToNat,Int.reduceNeg,m0,m1,m2,e2,e3.1,e3.2,e4.1,e4.2,decide_eq_true e5,CP,CQ,D6,D7,D8]<;>(repeat' apply And.intro)<;>first | rfl | exact⟨_,rfl⟩ | exact⟨_,_,rfl⟩ | simp [A8,A3]
  ·rw [if_neg e5]at h
   obtain rfl:=Option.some.inj h
   simp (maxDischargeDepth:=9) only [↓A9,A5,AB,AY,A6,AA,AZ,↓reduceIte,Nat.reduceEqDiff,Nat.reduceLT,Nat.reduceLeDiff,Nat.reduceAdd,Nat.reduceMul,Nat.reduceMod,Nat.reduceDiv,Nat.reducePow,Nat.reduceSub,Nat.reduceBEq,Int.reduceLE,Int.reduceLT,Int.reduceEq,Int.reduceSub,Int.reduceAdd,Int.reduceToNat,Int.reduceNeg,m0,m1,m2,e2,e3.1,e3.2,e4.1,e4.2,e5,CP,CQ,D6,D7,D8]<;>(repeat' apply And.intro)<;>first | rfl | exact⟨_,rfl⟩ | exact⟨_,_,rfl⟩ | simp [A8,A3]
 ·rw [if_neg e2]at h
  obtain rfl:=Option.some.inj h
  simp (maxDischargeDepth:=9) only [↓A9,A5,AB,AY,A6,AA,AZ,↓reduceIte,Nat.reduceEqDiff,Nat.reduceLT,Nat.reduceLeDiff,Nat.reduceAdd,Nat.reduceMul,Nat.reduceMod,Nat.reduceDiv,Nat.reducePow,Nat.reduceSub,Nat.reduceBEq,Int.reduceLE,Int.reduceLT,Int.reduceEq,Int.reduceSub,Int.reduceAdd,Int.reduceToNat,Int.reduceNeg,m0,m1,m2,e2,CP,CQ,D6,D7,D8]<;>(repeat' apply And.intro)<;>first | rfl | exact⟨_,rfl⟩ | exact⟨_,_,rfl⟩ | simp [A8,A3]
theorem LC(a:List Int)(b:List Int){r:Bool}(h:Hx a b=some r):Y.call 16 [D.sl 3 (A8 (D.int .i64) a),D.sl 3 (A8 (D.int .i64) b)] []=some (D.bool r,[]):=by
 refine P1 ?_ rfl
 unfold ta
 unfold Hx at h
 by_cases e1:(a.length:Int)=(b.length:Int)
 ·rw [if_pos e1]at h
  obtain⟨H0,hl3,h⟩:=Bg h
  try dsimp only at h
  simp (maxDischargeDepth:=9) only [↓A9,A5,AB,AY,A6,AA,AZ,↓reduceIte,Nat.reduceEqDiff,Nat.reduceLT,Nat.reduceLeDiff,Nat.reduceAdd,Nat.reduceMul,Nat.reduceMod,Nat.reduceDiv,Nat.reducePow,Nat.reduceSub,Nat.reduceBEq,Int.reduceLE,Int.reduceLT,Int.reduceEq,Int.reduceSub,Int.reduceAdd,Int.reduceToNat,Int.reduceNeg,decide_eq_true e1]
  refine Ba (KS a b hl3 ?_) ?_
  ·simp (maxDischargeDepth:=9) only [↓A9,A5,AB,AY,A6,AA,AZ,↓reduceIte,Nat.reduceEqDiff,Nat.reduceLT,Nat.reduceLeDiff,Nat.reduceAdd,Nat.reduceMul,Nat.reduceMod,Nat.reduceDiv,Nat.reducePow,Nat.reduceSub,Nat.reduceBEq,Int.reduceLE,Int.reduceLT,Int.reduceEq,Int.reduceSub,Int.reduceAdd,Int.reduceToNat,Int.reduceNeg,decide_eq_true e1,CP]<;>(repeat' apply And.intro)<;>first | rfl | exact⟨_,rfl⟩ | exact⟨_,_,rfl⟩ | simp [A8,A3]
  ·intro ex3 s3 hX3
   rcases H0 with q3_ | q3_
   ·unfold CQ at hX3
    dsimp only at hX3 h
    obtain⟨rfl,n3_0⟩:=hX3
    obtain rfl:=Option.some.inj h
    simp (maxDischargeDepth:=9) only [↓A9,A5,AB,AY,A6,AA,AZ,↓reduceIte,Nat.reduceEqDiff,Nat.reduceLT,Nat.reduceLeDiff,Nat.reduceAdd,Nat.reduceMul,Nat.reduceMod,Nat.reduceDiv,Nat.reducePow,Nat.reduceSub,Nat.reduceBEq,Int.reduceLE,Int.reduceLT,Int.reduceEq,Int.reduceSub,Int.reduceAdd,Int.reduceToNat,Int.reduceNeg,decide_eq_true e1,n3_0]<;>(repeat' apply And.intro)<;>first | rfl | exact⟨_,rfl⟩ | exact⟨_,_,rfl⟩ | simp [A8,A3]
   ·unfold CQ at hX3
    dsimp only at hX3 h
    obtain rfl:=hX3
    obtain rfl:=Option.some.inj h
    simp (maxDischargeDepth:=9) only [↓A9,A5,AB,AY,A6,AA,AZ,↓reduceIte,Nat.reduceEqDiff,Nat.reduceLT,Nat.reduceLeDiff,Nat.reduceAdd,Nat.reduceMul,Nat.reduceMod,Nat.reduceDiv,Nat.reducePow,Nat.reduceSub,Nat.reduceBEq,Int.reduceLE,Int.reduceLT,Int.reduceEq,Int.reduceSub,Int.reduceAdd,Int.reduceToNat,Int.reduceNeg,decide_eq_true e1]<;>(repeat' apply And.intro)<;>first | rfl | exact⟨_,rfl⟩ | exact⟨_,_,rfl⟩ | simp [A8,A3]
 ·rw [if_neg e1]at h
  obtain rfl:=Option.some.inj h
  simp (maxDischargeDepth:=9) only [↓A9,A5,AB,AY,A6,AA,AZ,↓reduceIte,Nat.reduceEqDiff,Nat.reduceLT,Nat.reduceLeDiff,Nat.reduceAdd,Nat.reduceMul,Nat.reduceMod,Nat.reduceDiv,Nat.reducePow,Nat.reduceSub,Nat.reduceBEq,Int.reduceLE,Int.reduceLT,Int.reduceEq,Int.reduceSub,Int.reduceAdd,Int.reduceToNat,Int.reduceNeg,e1]<;>(repeat' apply And.intro)<;>first | rfl | exact⟨_,rfl⟩ | exact⟨_,_,rfl⟩ | simp [A8,A3]
theorem Oh(a b:List Int)(ha:a.length<1099511627776):Hx a b=some (decide (a=b)):=by
 unfold Hx FH
 by_cases hl:a.length=b.length
 ·rw [if_pos (by omega)]
  have key:=CT (fun v=>D0 a b v) (fun i=>(i:Int)) a.length (fun i=>decide (a.getD i default=b.getD i default)) (.inl ()) (.inr ()) ?_ ?_
  ·simp only [Int.natCast_zero]at key
   rw [key,KP a b hl]
   by_cases he:a=b<;>simp [he]
  ·intro i hi
   simp only [D0]
   rw [if_pos (CE hi),C3 (E9 hi),C3 (E9 (by omega)),Int.toNat_natCast,KQ i (by omega)]<;>simp only [decide_eq_true_eq]
  ·simp only [D0]
   rw [if_neg (Am _)]
 ·rw [if_neg (by omega)]
  have: ¬a=b:=fun e=>hl (by rw [e])
  simp [this]
theorem Dy(a:List Int)(b:List Int)(h0:a.length<1099511627776):Y.call 16 [D.sl 3 (A8 (D.int .i64) a),D.sl 3 (A8 (D.int .i64) b)] []=some (D.bool (decide (a=b)),[]):=LC a b (Oh a b h0)
def DF(left n:Int):Int:=if left-n<0 then-1 else left-n
theorem El(left n:Int):DF left n= -1∨(DF left n=left-n∧0≤left-n):=by unfold DF;split<;>omega
def F7(l:List (List Int)):Int:=(l.map fun xs=>(xs.length:Int)).sum
theorem Qw:F7 []=0:=rfl
theorem Hy(x:List Int)(l:List (List Int)):F7 (x::l)=x.length+F7 l:=rfl
theorem EI(l:List (List Int)):0≤F7 l:=by
 induction l with
 | nil=>rw [Qw];omega
 | cons x l ih=>rw [Hy];omega
theorem Vf{l:List (List Int)}{x:List Int}(h:x∈l):(x.length:Int)≤F7 l:=by
 induction l with
 | nil=>cases h
 | cons y l ih=>
  rw [Hy]
  have:=EI l
  rcases List.mem_cons.1 h with rfl | h
  ·omega
  ·have:=ih h;omega
noncomputable def Hz(a:List Int)(left:Int):Option (Int):=
 if(IntKind.i64.wrap (left-(a.length:Int)))<0 then
  some (-1)
 else
  some (IntKind.i64.wrap (left-(a.length:Int)))
def tg:SC:=
 .seq
 (.ops [
 ⟨(some 4),(.assign (.const (.int .i64 0))),3,none⟩])
 (.seq
 (.ops [
 ⟨(some 5),(.move (.tmp 1)),3,none⟩,
 ⟨(some 6),(.move (.tmp 0)),23,none⟩,
 ⟨(some 7),(.call ⟨(.builtin .len), #[(.tmp 6)], #[23]⟩),3,none⟩,
 ⟨(some 8),(.binOp .sub 3 (.tmp 5) (.tmp 7) 3),3,none⟩,
 ⟨(some 1),(.assign (.tmp 8)),3,none⟩])
 (.seq
 (.seq
 (.ops [
 ⟨(some 9),(.move (.tmp 1)),3,none⟩,
 ⟨(some 10),(.binOp .lss 3 (.tmp 9) (.const (.int .i64 0)) 3),4,none⟩])
 (.cond (.tmp 10)
 (.seq
 (.ops [
 ⟨(some 4),(.assign (.const (.int .i64 (-1)))),3,none⟩])
 .ret)
 .skip))
 (.seq
 (.ops [
 ⟨(some 11),(.move (.tmp 1)),3,none⟩,
 ⟨(some 4),(.assign (.tmp 11)),3,none⟩])
 .ret)))
theorem bc:Try.f42.body.map (BZ lends)=some tg:=by kernel_rfl
theorem th:CD Try.f42 2=true:=by kernel_rfl
theorem c42{a l:List D}{r:D×List D}(h:Bw Y.env tg (Ew AE l.length [ResultVar.tmp 4] r) (entry a l))(ha:a.length=2):Y.call 42 a l=some r:=
 AN (Y:=Y) rfl Try.func42 (ha▸th) bc h
theorem LD(a:List Int)(left:Int){r:Int}(h:Hz a left=some r):Y.call 42 [D.sl 3 (A8 (D.int .i64) a),D.int .i64 left] []=some (D.int .i64 r,[]):=by
 refine c42 ?_ rfl
 unfold tg
 unfold Hz at h
 by_cases e1:(IntKind.i64.wrap (left-(a.length:Int)))<0
 ·rw [if_pos e1]at h
  obtain rfl:=Option.some.inj h
  simp (maxDischargeDepth:=9) only [↓A9,A5,AB,AY,A6,AA,AZ,↓reduceIte,Nat.reduceEqDiff,Nat.reduceLT,Nat.reduceLeDiff,Nat.reduceAdd,Nat.reduceMul,Nat.reduceMod,Nat.reduceDiv,Nat.reducePow,Nat.reduceSub,Nat.reduceBEq,Int.reduceLE,Int.reduceLT,Int.reduceEq,Int.reduceSub,Int.reduceAdd,Int.reduceToNat,Int.reduceNeg,e1]<;>(repeat' apply And.intro)<;>first | rfl | exact⟨_,rfl⟩ | exact⟨_,_,rfl⟩ | simp [A8,A3]
 ·rw [if_neg e1]at h
  obtain rfl:=Option.some.inj h
  simp (maxDischargeDepth:=9) only [↓A9,A5,AB,AY,A6,AA,AZ,↓reduceIte,Nat.reduceEqDiff,Nat.reduceLT,Nat.reduceLeDiff,Nat.reduceAdd,Nat.reduceMul,Nat.reduceMod,Nat.reduceDiv,Nat.reducePow,Nat.reduceSub,Nat.reduceBEq,Int.reduceLE,Int.reduceLT,Int.reduceEq,Int.reduceSub,Int.reduceAdd,Int.reduceToNat,Int.reduceNeg,e1]<;>(repeat' apply And.intro)<;>first | rfl | exact⟨_,rfl⟩ | exact⟨_,_,rfl⟩ | simp [A8,A3]
theorem Oi(a:List Int)(left:Int)(ha:a.length<9223372036854775808)(hl:0≤left∧left≤1048576):Hz a left=some (DF left a.length):=by
 unfold Hz DF
 rw [MZ _ (by omega)]
 split<;>rfl
theorem Iw(a:List Int)(left:Int)(h0:a.length<9223372036854775808)(h1:0≤left∧left≤1048576):Y.call 42 [D.sl 3 (A8 (D.int .i64) a),D.int .i64 left] []=some (D.int .i64 (DF left a.length),[]):=LD a left (Oi a left h0 h1)
def ZA:Int→List (List Int)→Int
 | left,[]=>left
 | left,x::l=>if left-x.length<0 then-1 else ZA (left-x.length) l
theorem bd(l:List (List Int)): ∀(left:Int),0≤left→ZA left l=DF left (F7 l):=by
 induction l with
 | nil=>intro left h;unfold ZA DF;rw [Qw,if_neg (by omega)];omega
 | cons x l ih=>
  intro left h
  have:=EI l
  unfold ZA
  by_cases hq:left-x.length<0
  ·rw [if_pos hq];unfold DF;rw [Hy,if_pos (by omega)]
  ·rw [if_neg hq,ih _ (by omega)]
   unfold DF
   rw [Hy]
   by_cases hr:left-x.length-F7 l<0
   ·rw [if_pos hr,if_pos (by omega)]
   ·rw [if_neg hr,if_neg (by omega)];omega
def mh(l:List (List Int)):Prop:=l.length<9223372036854775808∧ ∀x∈l,x.length<9223372036854775808
instance (l:List (List Int)):Decidable (mh l):=by unfold mh;infer_instance
def upto(k:Int)(n:Nat):List Int:=(List.range n).map fun(i:Nat)=>k+i
def ml:Int→List (List Int)→List (List Int)
 | _,[]=>[]
 | k,x::l=>upto k x.length::ml (k+x.length) l
def RZ:Int→List Int→Int
 | k,[]=>k
 | k,x::l=>if x=k then RZ (k+1) l else-1
end Go.Proofs.Ytjjahjjhohcidaa
