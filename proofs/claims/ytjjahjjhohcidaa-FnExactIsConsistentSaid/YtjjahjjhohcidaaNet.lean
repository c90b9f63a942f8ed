/- Networks copied, compared, measured; when lists are a network, as plain functions. Conditions: the lists are short. -/
import Derived.Test.YtjjahjjhohcidaaL6
import Derived.Test.YtjjahjjhohcidaaHas
import Derived.Test.YtjjahjjhohcidaaCon
namespace Go.Proofs.Ytjjahjjhohcidaa
open Go Dv
set_option linter.unusedSimpArgs false
set_option linter.unusedVariables false
set_option maxRecDepth 100000
set_option maxHeartbeats 4000000
def BP(l:List (List (Int×Int))):Prop:=l.length<1099511627776∧ ∀x∈l,x.length<549755813888
instance (l:List (List (Int×Int))):Decidable (BP l):=by unfold BP;infer_instance
theorem BP.at{l:List (List (Int×Int))}(h:BP l)(i:Nat)(hi:i<l.length):l[i].length<549755813888:=h.2 _ (List.getElem_mem hi)
theorem BP.getD{l:List (List (Int×Int))}(h:BP l)(i:Nat):(l.getD i default).length<549755813888:=by
 by_cases hi:i<l.length
 ·rw [B0 _ _ hi];exact h.at i hi
 ·rw [List.getD_eq_getElem?_getD,List.getElem?_eq_none (by omega)];decide
theorem mq{a:List (Int×Int)}{i:Nat}(h:i<a.length):(Ad a i,Az a i)=a[i]:=by
 unfold Ad Az
 rw [B0 _ _ h]
noncomputable def JQ(a_Node:Int)(a_Port:Int):Option (Int×Int):=
 some (a_Node,a_Port)
def bm:SC:=
 .seq
 (.ops [
 ⟨(some 1),(.box 134 (.tmp 0)),0,none⟩,
 ⟨(some 2),(.alloc 106),0,none⟩])
 (.seq
 (.ops [
 ⟨(some 3),(.alloc 106),0,none⟩])
 (.seq
 (.ops [
 ⟨(some 4),(.fieldAddr 134 (.tmp 1) 0),0,none⟩,
 ⟨(some 5),(.load 3 (.tmp 4)),3,none⟩,
 ⟨(some 6),(.fieldAddr 106 (.tmp 3) 0),0,none⟩,
 ⟨none,(.store 3 (.tmp 6) (.tmp 5)),0,none⟩])
 (.seq
 (.ops [
 ⟨(some 7),(.fieldAddr 134 (.tmp 1) 1),0,none⟩,
 ⟨(some 8),(.load 3 (.tmp 7)),3,none⟩,
 ⟨(some 9),(.fieldAddr 106 (.tmp 3) 1),0,none⟩,
 ⟨none,(.store 3 (.tmp 9) (.tmp 8)),0,none⟩])
 (.seq
 (.ops [
 ⟨(some 10),(.load 106 (.tmp 3)),106,none⟩,
 ⟨none,(.store 106 (.tmp 2) (.tmp 10)),0,none⟩])
 .ret))))
theorem Vj:Try.f119.body.map (BZ lends)=some bm:=by kernel_rfl
theorem mr:CD Try.f119 1=true:=by kernel_rfl
theorem u7{a l:List D}{r:D×List D}(h:Bw Y.env bm (Ew AE l.length [ResultVar.cell 2 106] r) (entry a l))(ha:a.length=1):Y.call 119 a l=some r:=
 AN (Y:=Y) rfl Try.func119 (ha▸mr) Vj h
theorem Ms(a_Node:Int)(a_Port:Int){r:Int×Int}(h:JQ a_Node a_Port=some r):Y.call 119 [D.agg [D.int .i64 a_Node,D.int .i64 a_Port]] []=some (D.agg [D.int .i64 r.1,D.int .i64 r.2],[]):=by
 refine u7 ?_ rfl
 unfold bm
 unfold JQ at h
 obtain rfl:=Option.some.inj h
 simp (maxDischargeDepth:=9) only [↓A9,A5,AB,AY,A6,AA,AZ,↓reduceIte,Nat.reduceEqDiff,Nat.reduceLT,Nat.reduceLeDiff,Nat.reduceAdd,Nat.reduceMul,Nat.reduceMod,Nat.reduceDiv,Nat.reducePow,Nat.reduceSub,Nat.reduceBEq,Int.reduceLE,Int.reduceLT,Int.reduceEq,Int.reduceSub,Int.reduceAdd,Int.reduceToNat,Int.reduceNeg]<;>(repeat' apply And.intro)<;>first | rfl | exact⟨_,rfl⟩ | exact⟨_,_,rfl⟩ | simp [A8,A3]
noncomputable def D1(a:List (Int×Int))(out:List (Int×Int))(i:Int):Option (((List (Int×Int))×Int)⊕((List (Int×Int)))):=
 if i<(a.length:Int)then
  ck (0≤i∧i.toNat<a.length)<|
  (JQ (Ad a i.toNat) (Az a i.toNat)).bind fun u9=>
  ck (0≤i∧i.toNat<out.length)<|
  some (Sum.inl ((out.set i.toNat (u9.1,u9.2)),IntKind.i64.wrap (i+1)))
 else
  some (Sum.inr out)
noncomputable def FJ(a:List (Int×Int))(v:(List (Int×Int))×Int):Option ((List (Int×Int))):=Gc (fun v=>D1 a v.1 v.2) v
noncomputable def I1(a:List (Int×Int)):Option ((List (Int×Int))):=
 ck (0≤(a.length:Int)∧(a.length:Int)<1099511627776)<|
 (FJ a ((List.replicate a.length (0,0)),0)).bind fun H0=>
 some H0
def Mt:SC:=
 .seq
 (.seq
 (.ops [
 ⟨(some 8),(.move (.tmp 4)),3,none⟩,
 ⟨(some 9),(.move (.tmp 0)),100,none⟩,
 ⟨(some 10),(.call ⟨(.builtin .len), #[(.tmp 9)], #[100]⟩),3,none⟩,
 ⟨(some 11),(.binOp .lss 3 (.tmp 8) (.tmp 10) 3),4,none⟩])
 (.cond (.tmp 11)
 .skip
 (.exit 0)))
 (.seq
 (.block 1
 (.ops [
 ⟨(some 14),(.move (.tmp 3)),104,none⟩,
 ⟨(some 15),(.move (.tmp 4)),3,none⟩,
 ⟨(some 16),(.move (.tmp 0)),100,none⟩,
 ⟨(some 17),(.move (.tmp 4)),3,none⟩,
 ⟨(some 18),(.indexAddr 100 (.tmp 16) (.tmp 17)),0,none⟩,
 ⟨(some 19),(.load 134 (.tmp 18)),134,none⟩,
 ⟨(some 20),(.call ⟨(.value (.func 119)), #[(.tmp 19)], #[134]⟩),106,none⟩,
 ⟨(some 21),(.indexAddr 104 (.tmp 14) (.tmp 15)),0,none⟩,
 ⟨none,(.store 106 (.tmp 21) (.tmp 20)),0,none⟩]))
 (.ops [
 ⟨(some 12),(.move (.tmp 4)),3,none⟩,
 ⟨(some 13),(.binOp .add 3 (.tmp 12) (.const (.int .i64 1)) 3),3,none⟩,
 ⟨(some 4),(.assign (.tmp 13)),3,none⟩]))
def U7:SC:= .loop Mt
def uA:SC:=
 .seq
 (.ops [
 ⟨(some 2),(.assign (.const (.slice none 0 0))),104,none⟩])
 (.seq
 (.ops [
 ⟨(some 5),(.move (.tmp 0)),100,none⟩,
 ⟨(some 6),(.call ⟨(.builtin .len), #[(.tmp 5)], #[100]⟩),3,none⟩,
 ⟨(some 7),(.makeSlice 104 (.tmp 6) (.tmp 6)),104,none⟩,
 ⟨(some 3),(.assign (.tmp 7)),104,none⟩])
 (.seq
 (.seq
 (.ops [
 ⟨(some 4),(.assign (.const (.int .i64 0))),3,none⟩])
 (.block 0
 U7))
 (.seq
 (.ops [
 ⟨(some 22),(.move (.tmp 3)),104,none⟩,
 ⟨(some 2),(.assign (.tmp 22)),104,none⟩])
 .ret)))
theorem bn:Try.f83.body.map (BZ lends)=some uA:=by kernel_rfl
theorem uB:CD Try.f83 1=true:=by kernel_rfl
theorem c83{a l:List D}{r:D×List D}(h:Bw Y.env uA (Ew AE l.length [ResultVar.tmp 2] r) (entry a l))(ha:a.length=1):Y.call 83 a l=some r:=
 AN (Y:=Y) rfl Try.func83 (ha▸uB) bn h
def D2(a:List (Int×Int))(out:List (Int×Int))(i:Int)(s:St):Prop:=s.v 0=D.sl 134 (AT .i64 .i64 a)∧s.v 3=D.own 106 (AT .i64 .i64 out)∧s.v 4=D.int .i64 i
def Dq(a:List (Int×Int))(r:(List (Int×Int)))(ex:Ex)(s:St):Prop:=ex= .exit 0∧s.v 3=D.own 106 (AT .i64 .i64 r)
theorem KX(a:List (Int×Int)){v:(List (Int×Int))×Int}{s:St}{r:(List (Int×Int))}(h:FJ a v=some r)(hM:D2 a v.1 v.2 s):Bw Y.env U7 (Dq a r) s:=by
 unfold FJ at h
 refine CO (c:=Mt) (fun v=>D1 a v.1 v.2) (fun v s=>D2 a v.1 v.2 s) (Dq a) ?_ h hM
 clear h hM s v r
 intro v s o hM h
 obtain⟨out,i⟩:=v
 dsimp only at h hM
 unfold D1 at h
 unfold D2 at hM
 obtain⟨m0,m1,m2⟩:=hM
 unfold Mt
 by_cases e2:i<(a.length:Int)
 ·rw [if_pos e2]at h
  obtain⟨e3,h⟩:=C7 h
  obtain⟨u9,hl4,h⟩:=Bg h
  try dsimp only at h
  have c4:=Ms (Ad a i.toNat) (Az a i.toNat) hl4
  obtain⟨e5,h⟩:=C7 h
  obtain rfl:=Option.some.inj h
  simp (maxDischargeDepth:=9) only [↓A9,A5,AB,AY,A6,AA,AZ,↓reduceIte,Nat.reduceEqDiff,Nat.reduceLT,Nat.reduceLeDiff,Nat.reduceAdd,Nat.reduceMul,Nat.reduceMod,Nat.reduceDiv,Nat.reducePow,Nat.reduceSub,Nat.reduceBEq,Int.reduceLE,Int.reduceLT,Int.reduceEq,Int.reduceSub,Int.reduceAdd,Int.reduceToNat,Int.reduceNeg,m0,m1,m2,e2,e3.1,e3.2,c4,e5.1,e5.2,D2,Dq,D6,D7,D8]<;>(repeat' apply And.intro)<;>first | rfl | exact⟨_,rfl⟩ | exact⟨_,_,rfl⟩ | simp [A8,A3]
 ·rw [if_neg e2]at h
  obtain rfl:=Option.some.inj h
  simp (maxDischargeDepth:=9) only [↓A9,A5,AB,AY,A6,AA,AZ,↓reduceIte,Nat.reduceEqDiff,Nat.reduceLT,Nat.reduceLeDiff,Nat.reduceAdd,Nat.reduceMul,Nat.reduceMod,Nat.reduceDiv,Nat.reducePow,Nat.reduceSub,Nat.reduceBEq,Int.reduceLE,Int.reduceLT,Int.reduceEq,Int.reduceSub,Int.reduceAdd,Int.reduceToNat,Int.reduceNeg,m0,m1,m2,e2,D2,Dq,D6,D7,D8]<;>(repeat' apply And.intro)<;>first | rfl | exact⟨_,rfl⟩ | exact⟨_,_,rfl⟩ | simp [A8,A3]
theorem LH(a:List (Int×Int)){r:(List (Int×Int))}(h:I1 a=some r):Y.call 83 [D.sl 134 (AT .i64 .i64 a)] []=some (D.own 106 (AT .i64 .i64 r),[]):=by
 refine c83 ?_ rfl
 unfold uA
 unfold I1 at h
 obtain⟨e1,h⟩:=C7 h
 obtain⟨H0,hl3,h⟩:=Bg h
 try dsimp only at h
 simp (maxDischargeDepth:=9) only [↓A9,A5,AB,AY,A6,AA,AZ,↓reduceIte,Nat.reduceEqDiff,Nat.reduceLT,Nat.reduceLeDiff,Nat.reduceAdd,Nat.reduceMul,Nat.reduceMod,Nat.reduceDiv,Nat.reducePow,Nat.reduceSub,Nat.reduceBEq,Int.reduceLE,Int.reduceLT,Int.reduceEq,Int.reduceSub,Int.reduceAdd,Int.reduceToNat,Int.reduceNeg,e1.1,e1.2]
 refine Ba (KX a hl3 ?_) ?_
 ·simp (maxDischargeDepth:=9) only [↓A9,A5,AB,AY,A6,AA,AZ,↓reduceIte,Nat.reduceEqDiff,Nat.reduceLT,Nat.reduceLeDiff,Nat.reduceAdd,Nat.reduceMul,Nat.reduceMod,Nat.reduceDiv,Nat.reducePow,Nat.reduceSub,Nat.reduceBEq,Int.reduceLE,Int.reduceLT,Int.reduceEq,Int.reduceSub,Int.reduceAdd,Int.reduceToNat,Int.reduceNeg,e1.1,e1.2,D2]<;>(repeat' apply And.intro)<;>first | rfl | exact⟨_,rfl⟩ | exact⟨_,_,rfl⟩ | simp [A8,A3]
 ·intro ex3 s3 hX3
  unfold Dq at hX3
  obtain⟨rfl,n3_0⟩:=hX3
  obtain rfl:=Option.some.inj h
  simp (maxDischargeDepth:=9) only [↓A9,A5,AB,AY,A6,AA,AZ,↓reduceIte,Nat.reduceEqDiff,Nat.reduceLT,Nat.reduceLeDiff,Nat.reduceAdd,Nat.reduceMul,Nat.reduceMod,Nat.reduceDiv,Nat.reducePow,Nat.reduceSub,Nat.reduceBEq,Int.reduceLE,Int.reduceLT,Int.reduceEq,Int.reduceSub,Int.reduceAdd,Int.reduceToNat,Int.reduceNeg,e1.1,e1.2,n3_0]<;>(repeat' apply And.intro)<;>first | rfl | exact⟨_,rfl⟩ | exact⟨_,_,rfl⟩ | simp [A8,A3]
theorem Om(a:List (Int×Int))(h:a.length<549755813888):I1 a=some a:=by
 have key:=G3 (fun v=>D1 a v.1 v.2) (fun i=>(a.take i++List.replicate (a.length-i) (0,0),(i:Int))) a.length a ?_ ?_
 ·unfold I1 FJ
  rw [C3 (by omega)]
  simp only [List.take_zero,List.nil_append,Nat.sub_zero,Int.natCast_zero]at key
  rw [key];rfl
 ·intro i hi
  simp only [D1,JQ,Int.toNat_natCast]
  rw [if_pos (CE hi),C3 (by omega),Option.bind_some,C3 (by simp;omega),mq hi,Mi a i hi (0,0),KQ i (by omega)]
 ·simp only [D1]
  rw [if_neg (Am _)];simp
theorem On(a:List (Int×Int))(h0:a.length<549755813888):Y.call 83 [D.sl 134 (AT .i64 .i64 a)] []=some (D.own 106 (AT .i64 .i64 a),[]):=LH a (Om a h0)
noncomputable def Ca(a:List (List (Int×Int)))(out:List (List (Int×Int)))(i:Int):Option (((List (List (Int×Int)))×Int)⊕((List (List (Int×Int))))):=
 if i<(a.length:Int)then
  ck (0≤i∧i.toNat<a.length)<|
  ck ((a.getD i.toNat default).length<549755813888)<|
  ck (0≤i∧i.toNat<out.length)<|
  some (Sum.inl ((out.set i.toNat (a.getD i.toNat default)),IntKind.i64.wrap (i+1)))
 else
  some (Sum.inr out)
noncomputable def Ed(a:List (List (Int×Int)))(v:(List (List (Int×Int)))×Int):Option ((List (List (Int×Int)))):=Gc (fun v=>Ca a v.1 v.2) v
noncomputable def Gw(a:List (List (Int×Int))):Option ((List (List (Int×Int)))):=
 ck (0≤(a.length:Int)∧(a.length:Int)<1099511627776)<|
 (Ed a ((List.replicate a.length ([]:List (Int×Int))),0)).bind fun H0=>
 some H0
def Mu:SC:=
 .seq
 (.seq
 (.ops [
 ⟨(some 8),(.move (.tmp 4)),3,none⟩,
 ⟨(some 9),(.move (.tmp 0)),22,none⟩,
 ⟨(some 10),(.call ⟨(.builtin .len), #[(.tmp 9)], #[22]⟩),3,none⟩,
 ⟨(some 11),(.binOp .lss 3 (.tmp 8) (.tmp 10) 3),4,none⟩])
 (.cond (.tmp 11)
 .skip
 (.exit 0)))
 (.seq
 (.block 1
 (.ops [
 ⟨(some 14),(.move (.tmp 3)),29,none⟩,
 ⟨(some 15),(.move (.tmp 4)),3,none⟩,
 ⟨(some 16),(.move (.tmp 0)),22,none⟩,
 ⟨(some 17),(.move (.tmp 4)),3,none⟩,
 ⟨(some 18),(.indexAddr 22 (.tmp 16) (.tmp 17)),0,none⟩,
 ⟨(some 19),(.load 100 (.tmp 18)),100,none⟩,
 ⟨(some 20),(.call ⟨(.value (.func 83)), #[(.tmp 19)], #[100]⟩),104,none⟩,
 ⟨(some 21),(.indexAddr 29 (.tmp 14) (.tmp 15)),0,none⟩,
 ⟨none,(.store 104 (.tmp 21) (.tmp 20)),0,none⟩]))
 (.ops [
 ⟨(some 12),(.move (.tmp 4)),3,none⟩,
 ⟨(some 13),(.binOp .add 3 (.tmp 12) (.const (.int .i64 1)) 3),3,none⟩,
 ⟨(some 4),(.assign (.tmp 13)),3,none⟩]))
def U8:SC:= .loop Mu
def uC:SC:=
 .seq
 (.ops [
 ⟨(some 2),(.assign (.const (.slice none 0 0))),29,none⟩])
 (.seq
 (.ops [
 ⟨(some 5),(.move (.tmp 0)),22,none⟩,
 ⟨(some 6),(.call ⟨(.builtin .len), #[(.tmp 5)], #[22]⟩),3,none⟩,
 ⟨(some 7),(.makeSlice 29 (.tmp 6) (.tmp 6)),29,none⟩,
 ⟨(some 3),(.assign (.tmp 7)),29,none⟩])
 (.seq
 (.seq
 (.ops [
 ⟨(some 4),(.assign (.const (.int .i64 0))),3,none⟩])
 (.block 0
 U8))
 (.seq
 (.ops [
 ⟨(some 22),(.move (.tmp 3)),29,none⟩,
 ⟨(some 2),(.assign (.tmp 22)),29,none⟩])
 .ret)))
theorem bo:Try.f45.body.map (BZ lends)=some uC:=by kernel_rfl
theorem uD:CD Try.f45 1=true:=by kernel_rfl
theorem c45{a l:List D}{r:D×List D}(h:Bw Y.env uC (Ew AE l.length [ResultVar.tmp 2] r) (entry a l))(ha:a.length=1):Y.call 45 a l=some r:=
 AN (Y:=Y) rfl Try.func45 (ha▸uD) bo h
def Cb(a:List (List (Int×Int)))(out:List (List (Int×Int)))(i:Int)(s:St):Prop:=s.v 0=D.sl 100 (A8 (fun x=>D.sl 134 (AT .i64 .i64 x)) a)∧s.v 3=D.own 104 (A8 (fun x=>D.own 106 (AT .i64 .i64 x)) out)∧s.v 4=D.int .i64 i
def DN(a:List (List (Int×Int)))(r:(List (List (Int×Int))))(ex:Ex)(s:St):Prop:=ex= .exit 0∧s.v 3=D.own 104 (A8 (fun x=>D.own 106 (AT .i64 .i64 x)) r)
theorem J9(a:List (List (Int×Int))){v:(List (List (Int×Int)))×Int}{s:St}{r:(List (List (Int×Int)))}(h:Ed a v=some r)(hM:Cb a v.1 v.2 s):Bw Y.env U8 (DN a r) s:=by
 unfold Ed at h
 refine CO (c:=Mu) (fun v=>Ca a v.1 v.2) (fun v s=>Cb a v.1 v.2 s) (DN a) ?_ h hM
 clear h hM s v r
 intro v s o hM h
 obtain⟨out,i⟩:=v
 dsimp only at h hM
 unfold Ca at h
 unfold Cb at hM
 obtain⟨m0,m1,m2⟩:=hM
 unfold Mu
 by_cases e2:i<(a.length:Int)
 ·rw [if_pos e2]at h
  obtain⟨e3,h⟩:=C7 h
  obtain⟨e4,h⟩:=C7 h
  have c5:=On (a.getD i.toNat default) e4
  obtain⟨e6,h⟩:=C7 h
  obtain rfl:=Option.some.inj h
  simp (maxDischargeDepth:=9) only [↓A9,A5,AB,AY,A6,AA,AZ,↓reduceIte,Nat.reduceEqDiff,Nat.reduceLT,Nat.reduceLeDiff,Nat.reduceAdd,Nat.reduceMul,Nat.reduceMod,Nat.reduceDiv,Nat.reducePow,Nat.reduceSub,Nat.reduceBEq,Int.reduceLE,Int.reduceLT,Int.reduceEq,Int.reduceSub,Int.reduceAdd,Int.reduceToNat,Int.reduceNeg,m0,m1,m2,e2,e3.1,e3.2,e4,c5,e6.1,e6.2,Cb,DN,D6,D7,D8]<;>(repeat' apply And.intro)<;>first | rfl | exact⟨_,rfl⟩ | exact⟨_,_,rfl⟩ | simp [A8,A3]
 ·rw [if_neg e2]at h
  obtain rfl:=Option.some.inj h
  simp (maxDischargeDepth:=9) only [↓A9,A5,AB,AY,A6,AA,AZ,↓reduceIte,Nat.reduceEqDiff,Nat.reduceLT,Nat.reduceLeDiff,Nat.reduceAdd,Nat.reduceMul,Nat.reduceMod,Nat.reduceDiv,Nat.reducePow,Nat.reduceSub,Nat.reduceBEq,Int.reduceLE,Int.reduceLT,Int.reduceEq,Int.reduceSub,Int.reduceAdd,Int.reduceToNat,Int.reduceNeg,m0,m1,m2,e2,Cb,DN,D6,D7,D8]<;>(repeat' apply And.intro)<;>first | rfl | exact⟨_,rfl⟩ | exact⟨_,_,rfl⟩ | simp [A8,A3]
theorem KY(a:List (List (Int×Int))){r:(List (List (Int×Int)))}(h:Gw a=some r):Y.call 45 [D.sl 100 (A8 (fun x=>D.sl 134 (AT .i64 .i64 x)) a)] []=some (D.own 104 (A8 (fun x=>D.own 106 (AT .i64 .i64 x)) r),[]):=by
 refine c45 ?_ rfl
 unfold uC
 unfold Gw at h
 obtain⟨e1,h⟩:=C7 h
 obtain⟨H0,hl3,h⟩:=Bg h
 try dsimp only at h
 simp (maxDischargeDepth:=9) only [↓A9,A5,AB,AY,A6,AA,AZ,↓reduceIte,Nat.reduceEqDiff,Nat.reduceLT,Nat.reduceLeDiff,Nat.reduceAdd,Nat.reduceMul,Nat.reduceMod,Nat.reduceDiv,Nat.reducePow,Nat.reduceSub,Nat.reduceBEq,Int.reduceLE,Int.reduceLT,Int.reduceEq,Int.reduceSub,Int.reduceAdd,Int.reduceToNat,Int.reduceNeg,e1.1,e1.2]
 refine Ba (J9 a hl3 ?_) ?_
 ·simp (maxDischargeDepth:=9) only [↓A9,A5,AB,AY,A6,AA,AZ,↓reduceIte,Nat.reduceEqDiff,Nat.reduceLT,Nat.reduceLeDiff,Nat.reduceAdd,Nat.reduceMul,Nat.reduceMod,Nat.reduceDiv,Nat.reducePow,Nat.reduceSub,Nat.reduceBEq,Int.reduceLE,Int.reduceLT,Int.reduceEq,Int.reduceSub,Int.reduceAdd,Int.reduceToNat,Int.reduceNeg,e1.1,e1.2,Cb]<;>(repeat' apply And.intro)<;>first | rfl | exact⟨_,rfl⟩ | exact⟨_,_,rfl⟩ | simp [A8,A3]
 ·intro ex3 s3 hX3
  unfold DN at hX3
  obtain⟨rfl,n3_0⟩:=hX3
  obtain rfl:=Option.some.inj h
  simp (maxDischargeDepth:=9) only [↓A9,A5,AB,AY,A6,AA,AZ,↓reduceIte,Nat.reduceEqDiff,Nat.reduceLT,Nat.reduceLeDiff,Nat.reduceAdd,Nat.reduceMul,Nat.reduceMod,Nat.reduceDiv,Nat.reducePow,Nat.reduceSub,Nat.reduceBEq,Int.reduceLE,Int.reduceLT,Int.reduceEq,Int.reduceSub,Int.reduceAdd,Int.reduceToNat,Int.reduceNeg,e1.1,e1.2,n3_0]<;>(repeat' apply And.intro)<;>first | rfl | exact⟨_,rfl⟩ | exact⟨_,_,rfl⟩ | simp [A8,A3]
theorem Mv(a:List (List (Int×Int)))(h:BP a):Gw a=some a:=by
 have h1:=h.1
 have key:=G3 (fun v=>Ca a v.1 v.2) (fun i=>(a.take i++List.replicate (a.length-i) [],(i:Int))) a.length a ?_ ?_
 ·unfold Gw Ed
  rw [C3 (by omega)]
  simp only [List.take_zero,List.nil_append,Nat.sub_zero,Int.natCast_zero]at key
  rw [key];rfl
 ·intro i hi
  simp only [Ca]
  rw [if_pos (CE hi),C3 (E9 hi),C3 (by rw [E8 _ _ hi];exact h.at i hi),C3 (E9 (by simp;omega)),E8 _ _ hi,Int.toNat_natCast,Mi a i hi [],KQ i (by omega)]
 ·simp only [Ca]
  rw [if_neg (Am _)];simp
theorem Mw(a:List (List (Int×Int)))(h0:BP a):Y.call 45 [D.sl 100 (A8 (fun x=>D.sl 134 (AT .i64 .i64 x)) a)] []=some (D.own 104 (A8 (fun x=>D.own 106 (AT .i64 .i64 x)) a),[]):=KY a (Mv a h0)
noncomputable def FK(AP:List (List (Int×Int)))(B9:List Int)(AQ:List Int):Option ((List (List (Int×Int)))×(List Int)×(List Int)):=
 ck (BP AP)<|
 ck (B9.length<1099511627776)<|
 ck (AQ.length<1099511627776)<|
 some (AP,B9,AQ)
def uE:SC:=
 .seq
 (.ops [
 ⟨(some 1),(.box 25 (.tmp 0)),0,none⟩,
 ⟨(some 2),(.alloc 31),0,none⟩])
 (.seq
 (.ops [
 ⟨(some 3),(.alloc 31),0,none⟩])
 (.seq
 (.ops [
 ⟨(some 4),(.fieldAddr 25 (.tmp 1) 0),0,none⟩,
 ⟨(some 5),(.load 22 (.tmp 4)),22,none⟩,
 ⟨(some 6),(.call ⟨(.value (.func 45)), #[(.tmp 5)], #[22]⟩),29,none⟩,
 ⟨(some 7),(.fieldAddr 31 (.tmp 3) 0),0,none⟩,
 ⟨none,(.store 29 (.tmp 7) (.tmp 6)),0,none⟩])
 (.seq
 (.ops [
 ⟨(some 8),(.fieldAddr 25 (.tmp 1) 1),0,none⟩,
 ⟨(some 9),(.load 23 (.tmp 8)),23,none⟩,
 ⟨(some 10),(.call ⟨(.value (.func 13)), #[(.tmp 9)], #[23]⟩),23,none⟩,
 ⟨(some 11),(.fieldAddr 31 (.tmp 3) 1),0,none⟩,
 ⟨none,(.store 23 (.tmp 11) (.tmp 10)),0,none⟩])
 (.seq
 (.ops [
 ⟨(some 12),(.fieldAddr 25 (.tmp 1) 2),0,none⟩,
 ⟨(some 13),(.load 23 (.tmp 12)),23,none⟩,
 ⟨(some 14),(.call ⟨(.value (.func 13)), #[(.tmp 13)], #[23]⟩),23,none⟩,
 ⟨(some 15),(.fieldAddr 31 (.tmp 3) 2),0,none⟩,
 ⟨none,(.store 23 (.tmp 15) (.tmp 14)),0,none⟩])
 (.seq
 (.ops [
 ⟨(some 16),(.load 31 (.tmp 3)),31,none⟩,
 ⟨none,(.store 31 (.tmp 2) (.tmp 16)),0,none⟩])
 .ret)))))
theorem bp:Try.f12.body.map (BZ lends)=some uE:=by kernel_rfl
theorem uF:CD Try.f12 1=true:=by kernel_rfl
theorem c12{a l:List D}{r:D×List D}(h:Bw Y.env uE (Ew AE l.length [ResultVar.cell 2 31] r) (entry a l))(ha:a.length=1):Y.call 12 a l=some r:=
 AN (Y:=Y) rfl Try.func12 (ha▸uF) bp h
theorem IS(AP:List (List (Int×Int)))(B9:List Int)(AQ:List Int){r:(List (List (Int×Int)))×(List Int)×(List Int)}(h:FK AP B9 AQ=some r):Y.call 12 [D.agg [D.sl 100 (A8 (fun x=>D.sl 134 (AT .i64 .i64 x)) AP),D.sl 3 (A8 (D.int .i64) B9),D.sl 3 (A8 (D.int .i64) AQ)]] []=some (D.agg [D.own 104 (A8 (fun x=>D.own 106 (AT .i64 .i64 x)) r.1),D.own 3 (A8 (D.int .i64) r.2.1),D.own 3 (A8 (D.int .i64) r.2.2)],[]):=by
 refine c12 ?_ rfl
 unfold uE
 unfold FK at h
 obtain⟨e1,h⟩:=C7 h
 have c2:=Mw AP e1
 obtain⟨e3,h⟩:=C7 h
 have c4:=Cj B9 e3
 obtain⟨e5,h⟩:=C7 h
 have c6:=Cj AQ e5
 obtain rfl:=Option.some.inj h
 simp (maxDischargeDepth:=9) only [↓A9,A5,AB,AY,A6,AA,AZ,↓reduceIte,Nat.reduceEqDiff,Nat.reduceLT,Nat.reduceLeDiff,Nat.reduceAdd,Nat.reduceMul,Nat.reduceMod,Nat.reduceDiv,Nat.reducePow,Nat.reduceSub,Nat.reduceBEq,Int.reduceLE,Int.reduceLT,Int.reduceEq,Int.reduceSub,Int.reduceAdd,Int.reduceToNat,Int.reduceNeg,e1,c2,e3,c4,e5,c6]<;>(repeat' apply And.intro)<;>first | rfl | exact⟨_,rfl⟩ | exact⟨_,_,rfl⟩ | simp [A8,A3]
theorem KZ(a:List (List (Int×Int)))(b c:List Int)(h:BP a)(hb:b.length<1099511627776)(hc:c.length<1099511627776):FK a b c=some (a,b,c):=by
 unfold FK
 rw [C3 h,C3 hb,C3 hc]
theorem Cc(AP:List (List (Int×Int)))(B9:List Int)(AQ:List Int)(h0:BP AP)(h1:B9.length<1099511627776)(h2:AQ.length<1099511627776):Y.call 12 [D.agg [D.sl 100 (A8 (fun x=>D.sl 134 (AT .i64 .i64 x)) AP),D.sl 3 (A8 (D.int .i64) B9),D.sl 3 (A8 (D.int .i64) AQ)]] []=some (D.agg [D.own 104 (A8 (fun x=>D.own 106 (AT .i64 .i64 x)) AP),D.own 3 (A8 (D.int .i64) B9),D.own 3 (A8 (D.int .i64) AQ)],[]):=IS AP B9 AQ (KZ AP B9 AQ h0 h1 h2)
noncomputable def I2(a_Node:Int)(a_Port:Int)(b_Node:Int)(b_Port:Int):Option (Bool):=
 if a_Node=b_Node then
  if a_Port=b_Port then
   some true
  else
   some false
 else
  some false
def bq:SC:=
 .seq
 (.ops [
 ⟨(some 2),(.box 106 (.tmp 0)),0,none⟩,
 ⟨(some 3),(.box 106 (.tmp 1)),0,none⟩,
 ⟨(some 4),(.assign (.const (.bool false))),4,none⟩])
 (.seq
 (.seq
 (.ops [
 ⟨(some 5),(.fieldAddr 106 (.tmp 2) 0),0,none⟩,
 ⟨(some 6),(.load 3 (.tmp 5)),3,none⟩,
 ⟨(some 7),(.fieldAddr 106 (.tmp 3) 0),0,none⟩,
 ⟨(some 8),(.load 3 (.tmp 7)),3,none⟩,
 ⟨(some 9),(.binOp .neq 3 (.tmp 6) (.tmp 8) 3),4,none⟩])
 (.cond (.tmp 9)
 (.seq
 (.ops [
 ⟨(some 4),(.assign (.const (.bool false))),4,none⟩])
 .ret)
 .skip))
 (.seq
 (.seq
 (.ops [
 ⟨(some 10),(.fieldAddr 106 (.tmp 2) 1),0,none⟩,
 ⟨(some 11),(.load 3 (.tmp 10)),3,none⟩,
 ⟨(some 12),(.fieldAddr 106 (.tmp 3) 1),0,none⟩,
 ⟨(some 13),(.load 3 (.tmp 12)),3,none⟩,
 ⟨(some 14),(.binOp .neq 3 (.tmp 11) (.tmp 13) 3),4,none⟩])
 (.cond (.tmp 14)
 (.seq
 (.ops [
 ⟨(some 4),(.assign (.const (.bool false))),4,none⟩])
 .ret)
 .skip))
 (.seq
 (.ops [
 ⟨(some 4),(.assign (.const (.bool true))),4,none⟩])
 .ret)))
theorem Vk:Try.f124.body.map (BZ lends)=some bq:=by kernel_rfl
theorem ms:CD Try.f124 2=true:=by kernel_rfl
theorem uG{a l:List D}{r:D×List D}(h:Bw Y.env bq (Ew AE l.length [ResultVar.tmp 4] r) (entry a l))(ha:a.length=2):Y.call 124 a l=some r:=
 AN (Y:=Y) rfl Try.func124 (ha▸ms) Vk h
theorem Mx(a_Node:Int)(a_Port:Int)(b_Node:Int)(b_Port:Int){r:Bool}(h:I2 a_Node a_Port b_Node b_Port=some r):Y.call 124 [D.agg [D.int .i64 a_Node,D.int .i64 a_Port],D.agg [D.int .i64 b_Node,D.int .i64 b_Port]] []=some (D.bool r,[]):=by
 refine uG ?_ rfl
 unfold bq
 unfold I2 at h
 by_cases e1:a_Node=b_Node
 ·rw [if_pos e1]at h
  by_cases e2:a_Port=b_Port
  ·rw [if_pos e2]at h
   obtain rfl:=Option.some.inj h
   simp (maxDischargeDepth:=9) only [↓A9,A5,AB,AY,A6,AA,AZ,↓reduceIte,Nat.reduceEqDiff,Nat.reduceLT,Nat.reduceLeDiff,Nat.reduceAdd,Nat.reduceMul,Nat.reduceMod,Nat.reduceDiv,Nat.reducePow,Nat.reduceSub,Nat.reduceBEq,Int.reduceLE,Int.reduceLT,Int.reduceEq,Int.reduceSub,Int.reduceAdd,Int.reduceToNat,Int.reduceNeg,decide_eq_true e1,decide_eq_true e2]<;>(repeat' apply And.intro)<;>first | rfl | exact⟨_,rfl⟩ | exact⟨_,_,rfl⟩ | simp [A8,A3]
  ·rw [if_neg e2]at h
   obtain rfl:=Option.some.inj h
   simp (maxDischargeDepth:=9) only [↓A9,A5,AB,AY,A6,AA,AZ,↓reduceIte,Nat.reduceEqDiff,Nat.reduceLT,Nat.reduceLeDiff,Nat.reduceAdd,Nat.reduceMul,Nat.reduceMod,Nat.reduceDiv,Nat.reducePow,Nat.reduceSub,Nat.reduceBEq,Int.reduceLE,Int.reduceLT,Int.reduceEq,Int.reduceSub,Int.reduceAdd,Int.reduceToNat,Int.reduceNeg,decide_eq_true e1,e2]<;>(repeat' apply And.intro)<;>first | rfl | exact⟨_,rfl⟩ | exact⟨_,_,rfl⟩ | simp [A8,A3]
 ·rw [if_neg e1]at h
  obtain rfl:=Option.some.inj h
  simp (maxDischargeDepth:=9) only [↓A9,A5,AB,AY,A6,AA,AZ,↓reduceIte,Nat.reduceEqDiff,Nat.reduceLT,Nat.reduceLeDiff,Nat.reduceAdd,Nat.reduceMul,Nat.reduceMod,Nat.reduceDiv,Nat.reducePow,Nat.reduceSub,Nat.reduceBEq,Int.reduceLE,Int.reduceLT,Int.reduceEq,Int.reduceSub,Int.reduceAdd,Int.reduceToNat,Int.reduceNeg,e1]<;>(repeat' apply And.intro)<;>first | rfl | exact⟨_,rfl⟩ | exact⟨_,_,rfl⟩ | simp [A8,A3]
noncomputable def D3(a:List (Int×Int))(b:List (Int×Int))(i:Int):Option ((Int)⊕(Unit⊕Unit)):=
 if i<(a.length:Int)then
  ck (0≤i∧i.toNat<a.length)<|
  ck (0≤i∧i.toNat<b.length)<|
  (I2 (Ad a i.toNat) (Az a i.toNat) (Ad b i.toNat) (Az b i.toNat)).bind fun ZB=>
  if ZB=true then
   some (Sum.inl (IntKind.i64.wrap (i+1)))
  else
   some (Sum.inr (Sum.inl ()))
 else
  some (Sum.inr (Sum.inr ()))
noncomputable def FM(a:List (Int×Int))(b:List (Int×Int))(v:Int):Option (Unit⊕Unit):=Gc (fun v=>D3 a b v) v
noncomputable def I3(a:List (Int×Int))(b:List (Int×Int)):Option (Bool):=
 if(a.length:Int)=(b.length:Int)then
  (FM a b 0).bind fun H0=>
  match H0 with
  | .inl q3_=>
   some false
  | .inr q3_=>
   some true
 else
  some false
def My:SC:=
 .seq
 (.seq
 (.ops [
 ⟨(some 11),(.move (.tmp 5)),3,none⟩,
 ⟨(some 12),(.move (.tmp 0)),104,none⟩,
 ⟨(some 13),(.call ⟨(.builtin .len), #[(.tmp 12)], #[104]⟩),3,none⟩,
 ⟨(some 14),(.binOp .lss 3 (.tmp 11) (.tmp 13) 3),4,none⟩])
 (.cond (.tmp 14)
 .skip
 (.exit 0)))
 (.seq
 (.block 1
 (.seq
 (.draws [
 (⟨[17,0,0],[17,18,19,20,21,22,23,24,25,26],[17]⟩,⟨(some 17),(.move (.tmp 0)),104,none⟩),
 (⟨[18,5,5],[17,18,19,20,21,22,23,24,25,26],[18]⟩,⟨(some 18),(.move (.tmp 5)),3,none⟩),
 (⟨[19,17,18,0,5],[17,18,19,20,21,22,23,24,25,26],[19]⟩,⟨(some 19),(.indexAddr 104 (.tmp 17) (.tmp 18)),0,none⟩),
 (⟨[20,19,0],[17,18,19,20,21,22,23,24,25,26],[20]⟩,⟨(some 20),(.load 106 (.tmp 19)),106,none⟩),
 (⟨[21,1,1],[17,18,19,20,21,22,23,24,25,26],[21]⟩,⟨(some 21),(.move (.tmp 1)),104,none⟩),
 (⟨[22,5,5],[17,18,19,20,21,22,23,24,25,26],[22]⟩,⟨(some 22),(.move (.tmp 5)),3,none⟩),
 (⟨[23,21,22,1,5],[17,18,19,20,21,22,23,24,25,26],[23]⟩,⟨(some 23),(.indexAddr 104 (.tmp 21) (.tmp 22)),0,none⟩),
 (⟨[24,23,1],[17,18,19,20,21,22,23,24,25,26],[24]⟩,⟨(some 24),(.load 106 (.tmp 23)),106,none⟩),
 (⟨[25,20,24,0,1],[17,18,19,20,21,22,23,24,25,26],[25]⟩,⟨(some 25),(.call ⟨(.value (.func 124)), #[(.tmp 20),(.tmp 24)], #[106,106]⟩),4,none⟩),
 (⟨[26,25,25],[17,18,19,20,21,22,23,24,25,26],[26]⟩,⟨(some 26),(.unOp .not 4 (.tmp 25)),4,none⟩)])
 (.cond (.tmp 26)
 (.seq
 (.ops [
 ⟨(some 4),(.assign (.const (.bool false))),4,none⟩])
 .ret)
 .skip)))
 (.ops [
 ⟨(some 15),(.move (.tmp 5)),3,none⟩,
 ⟨(some 16),(.binOp .add 3 (.tmp 15) (.const (.int .i64 1)) 3),3,none⟩,
 ⟨(some 5),(.assign (.tmp 16)),3,none⟩]))
def U9:SC:= .loop My
def uH:SC:=
 .seq
 (.ops [
 ⟨(some 4),(.assign (.const (.bool false))),4,none⟩])
 (.seq
 (.seq
 (.ops [
 ⟨(some 6),(.move (.tmp 0)),104,none⟩,
 ⟨(some 7),(.call ⟨(.builtin .len), #[(.tmp 6)], #[104]⟩),3,none⟩,
 ⟨(some 8),(.move (.tmp 1)),104,none⟩,
 ⟨(some 9),(.call ⟨(.builtin .len), #[(.tmp 8)], #[104]⟩),3,none⟩,
 ⟨(some 10),(.binOp .neq 3 (.tmp 7) (.tmp 9) 3),4,none⟩])
 (.cond (.tmp 10)
 (.seq
 (.ops [
 ⟨(some 4),(.assign (.const (.bool false))),4,none⟩])
 .ret)
 .skip))
 (.seq
 (.seq
 (.ops [
 ⟨(some 5),(.assign (.const (.int .i64 0))),3,none⟩])
 (.block 0
 U9))
 (.seq
 (.ops [
 ⟨(some 4),(.assign (.const (.bool true))),4,none⟩])
 .ret)))
theorem br:Try.f90.body.map (BZ lends)=some uH:=by kernel_rfl
theorem uI:CD Try.f90 2=true:=by kernel_rfl
theorem c90{a l:List D}{r:D×List D}(h:Bw Y.env uH (Ew AE l.length [ResultVar.tmp 4] r) (entry a l))(ha:a.length=2):Y.call 90 a l=some r:=
 AN (Y:=Y) rfl Try.func90 (ha▸uI) br h
def CR(a:List (Int×Int))(b:List (Int×Int))(i:Int)(s:St):Prop:=s.v 0=D.sl 106 (AT .i64 .i64 a)∧s.v 1=D.sl 106 (AT .i64 .i64 b)∧s.v 5=D.int .i64 i
def CS(a:List (Int×Int))(b:List (Int×Int))(r:Unit⊕Unit)(ex:Ex)(s:St):Prop:=match r with
 | .inl q=>ex= .ret∧s.v 4=D.bool false
 | .inr q=>ex= .exit 0
theorem Ka(a:List (Int×Int))(b:List (Int×Int)){v:Int}{s:St}{r:Unit⊕Unit}(h:FM a b v=some r)(hM:CR a b v s):Bw Y.env U9 (CS a b r) s:=by
 unfold FM at h
 refine CO (c:=My) (fun v=>D3 a b v) (fun v s=>CR a b v s) (CS a b) ?_ h hM
 clear h hM s v r
 intro i s o hM h
 unfold D3 at h
 unfold CR at hM
 obtain⟨m0,m1,m2⟩:=hM
 unfold My
 by_cases e2:i<(a.length:Int)
 ·rw [if_pos e2]at h
  obtain⟨e3,h⟩:=C7 h
  obtain⟨e4,h⟩:=C7 h
  obtain⟨ZB,hl5,h⟩:=Bg h
  try dsimp only at h
  have c5:=Mx (Ad a i.toNat) (Az a i.toNat) (Ad b i.toNat) (Az b i.toNat) hl5
  by_cases e6:ZB=true
  ·rw [if_pos e6]at h
   obtain rfl:=Option.some.inj h
   simp (maxDischargeDepth:=9) only [↓A9,A5,AB,AY,A6,AA,AZ,↓reduceIte,Nat.reduceEqDiff,Nat.reduceLT,Nat.reduceLeDiff,Nat.reduceAdd,Nat.reduceMul,Nat.reduceMod,Nat.reduceDiv,Nat.reducePow,Nat.reduceSub,Nat.reduceBEq,Int.reduceLE,Int.reduceLT,Int.reduceEq,Int.reduceSub,Int.reduceAdd,Int.reduceToNat,Int.reduceNeg,m0,m1,m2,e2,e3.1,e3.2,e4.1,e4.2,c5,e6,CR,CS,D6,D7,D8]<;>(repeat' apply And.intro)<;>first | rfl | exact⟨_,rfl⟩ | exact⟨_,_,rfl⟩ | simp [A8,A3]
  ·rw [if_neg e6]at h
   have e6f:ZB=false:=Bool.eq_false_iff.mpr e6
   obtain rfl:=Option.some.inj h
   simp (maxDischargeDepth:=9) only [↓A9,A5,AB,AY,A6,AA,AZ,↓reduceIte,Nat.reduceEqDiff,Nat.reduceLT,Nat.reduceLeDiff,Nat.reduceAdd,Nat.reduceMul,Nat.reduceMod,Nat.reduceDiv,Nat.reducePow,Nat.reduceSub,Nat.reduceBEq,Int.reduceLE,Int.reduceLT,Int.reduceEq,Int.reduceSub,Int.reduceAdd,Int.reduceToNat,Int.reduceNeg,m0,m1,m2,e2,e3.1,e3.2,e4.1,e4.2,c5,e6f,CR,CS,D6,D7,D8]<;>(repeat' apply And.intro)<;>first | rfl | exact⟨_,rfl⟩ | exact⟨_,_,rfl⟩ | simp [A8,A3]
 ·rw [if_neg e2]at h
  obtain rfl:=Option.some.inj h
  simp (maxDischargeDepth:=9) only [↓A9,A5,AB,AY,A6,AA,AZ,↓reduceIte,Nat.reduceEqDiff,Nat.reduceLT,Nat.reduceLeDiff,Nat.reduceAdd,Nat.reduceMul,Nat.reduceMod,Nat.reduceDiv,Nat.reducePow,Nat.reduceSub,Nat.reduceBEq,Int.reduceLE,Int.reduceLT,Int.reduceEq,Int.reduceSub,Int.reduceAdd,Int.reduceToNat,Int.reduceNeg,m0,m1,m2,e2,CR,CS,D6,D7,D8]<;>(repeat' apply And.intro)<;>first | rfl | exact⟨_,rfl⟩ | exact⟨_,_,rfl⟩ | simp [A8,A3]
theorem LI(a:List (Int×Int))(b:List (Int×Int)){r:Bool}(h:I3 a b=some r):Y.call 90 [D.sl 106 (AT .i64 .i64 a),D.sl 106 (AT .i64 .i64 b)] []=some (D.bool r,[]):=by
 refine c90 ?_ rfl
 unfold uH
 unfold I3 at h
 by_cases e1:(a.length:Int)=(b.length:Int)
 ·rw [if_pos e1]at h
  obtain⟨H0,hl3,h⟩:=Bg h
  try dsimp only at h
  simp (maxDischargeDepth:=9) only [↓A9,A5,AB,AY,A6,AA,AZ,↓reduceIte,Nat.reduceEqDiff,Nat.reduceLT,Nat.reduceLeDiff,Nat.reduceAdd,Nat.reduceMul,Nat.reduceMod,Nat.reduceDiv,Nat.reducePow,Nat.reduceSub,Nat.reduceBEq,Int.reduceLE,Int.reduceLT,Int.reduceEq,Int.reduceSub,Int.reduceAdd,Int.reduceToNat,Int.reduceNeg,decide_eq_true e1]
  refine Ba (Ka a b hl3 ?_) ?_
  ·simp (maxDischargeDepth:=9) only [↓A9,A5,AB,AY,A6,AA,AZ,↓reduceIte,Nat.reduceEqDiff,Nat.reduceLT,Nat.reduceLeDiff,Nat.reduceAdd,Nat.reduceMul,Nat.reduceMod,Nat.reduceDiv,Nat.reducePow,Nat.reduceSub,Nat.reduceBEq,Int.reduceLE,Int.reduceLT,Int.reduceEq,Int.reduceSub,Int.reduceAdd,Int.reduceToNat,Int.reduceNeg,decide_eq_true e1,CR]<;>(repeat' apply And.intro)<;>first | rfl | exact⟨_,rfl⟩ | exact⟨_,_,rfl⟩ | simp [A8,A3]
  ·intro ex3 s3 hX3
   rcases H0 with q3_ | q3_
   ·unfold CS at hX3
    dsimp only at hX3 h
    obtain⟨rfl,n3_0⟩:=hX3
    obtain rfl:=Option.some.inj h
    simp (maxDischargeDepth:=9) only [↓A9,A5,AB,AY,A6,AA,AZ,↓reduceIte,Nat.reduceEqDiff,Nat.reduceLT,Nat.reduceLeDiff,Nat.reduceAdd,Nat.reduceMul,Nat.reduceMod,Nat.reduceDiv,Nat.reducePow,Nat.reduceSub,Nat.reduceBEq,Int.reduceLE,Int.reduceLT,Int.reduceEq,Int.reduceSub,Int.reduceAdd,Int.reduceToNat,Int.reduceNeg,decide_eq_true e1,n3_0]<;>(repeat' apply And.intro)<;>first | rfl | exact⟨_,rfl⟩ | exact⟨_,_,rfl⟩ | simp [A8,A3]
   ·unfold CS at hX3
    dsimp only at hX3 h
    obtain rfl:=hX3
    obtain rfl:=Option.some.inj h
    simp (maxDischargeDepth:=9) only [↓A9,A5,AB,AY,A6,AA,AZ,↓reduceIte,Nat.reduceEqDiff,Nat.reduceLT,Nat.reduceLeDiff,Nat.reduceAdd,Nat.reduceMul,Nat.reduceMod,Nat.reduceDiv,Nat.reducePow,Nat.reduceSub,Nat.reduceBEq,Int.reduceLE,Int.reduceLT,Int.reduceEq,Int.reduceSub,Int.reduceAdd,Int.reduceToNat,Int.reduceNeg,decide_eq_true e1]<;>(repeat' apply And.intro)<;>first | rfl | exact⟨_,rfl⟩ | exact⟨_,_,rfl⟩ | simp [A8,A3]
 ·rw [if_neg e1]at h
  obtain rfl:=Option.some.inj h
  simp (maxDischargeDepth:=9) only [↓A9,A5,AB,AY,A6,AA,AZ,↓reduceIte,Nat.reduceEqDiff,Nat.reduceLT,Nat.reduceLeDiff,Nat.reduceAdd,Nat.reduceMul,Nat.reduceMod,Nat.reduceDiv,Nat.reducePow,Nat.reduceSub,Nat.reduceBEq,Int.reduceLE,Int.reduceLT,Int.reduceEq,Int.reduceSub,Int.reduceAdd,Int.reduceToNat,Int.reduceNeg,e1]<;>(repeat' apply And.intro)<;>first | rfl | exact⟨_,rfl⟩ | exact⟨_,_,rfl⟩ | simp [A8,A3]
theorem QR(a b c d:Int):I2 a b c d=some (decide ((a,b)=(c,d))):=by
 unfold I2
 by_cases h1:a=c<;>by_cases h2:b=d<;>simp [h1,h2]
theorem Oo(a b:List (Int×Int))(ha:a.length<549755813888):I3 a b=some (decide (a=b)):=by
 unfold I3 FM
 by_cases hl:a.length=b.length
 ·rw [if_pos (by omega)]
  have key:=CT (fun v=>D3 a b v) (fun i=>(i:Int)) a.length (fun i=>decide (a.getD i default=b.getD i default)) (.inl ()) (.inr ()) ?_ ?_
  ·simp only [Int.natCast_zero]at key
   rw [key,KP a b hl]
   by_cases he:a=b<;>simp [he]
  ·intro i hi
   simp only [D3,Int.toNat_natCast]
   rw [if_pos (CE hi),C3 (by omega),C3 (by omega),QR,Option.bind_some,KQ i (by omega)]
   rfl
  ·simp only [D3]
   rw [if_neg (Am _)]
 ·rw [if_neg (by omega)]
  have: ¬a=b:=fun e=>hl (by rw [e])
  simp [this]
theorem Oq(a:List (Int×Int))(b:List (Int×Int))(h0:a.length<549755813888):Y.call 90 [D.sl 106 (AT .i64 .i64 a),D.sl 106 (AT .i64 .i64 b)] []=some (D.bool (decide (a=b)),[]):=LI a b (Oo a b h0)
noncomputable def Cd(a:List (List (Int×Int)))(b:List (List (Int×Int)))(i:Int):Option ((Int)⊕(Unit⊕Unit)):=
 if i<(a.length:Int)then
  ck (0≤i∧i.toNat<a.length)<|
  ck (0≤i∧i.toNat<b.length)<|
  ck ((a.getD i.toNat default).length<549755813888)<|
  if(decide ((a.getD i.toNat default)=(b.getD i.toNat default)))=true then
   some (Sum.inl (IntKind.i64.wrap (i+1)))
  else
   some (Sum.inr (Sum.inl ()))
 else
  some (Sum.inr (Sum.inr ()))
noncomputable def Ee(a:List (List (Int×Int)))(b:List (List (Int×Int)))(v:Int):Option (Unit⊕Unit):=Gc (fun v=>Cd a b v) v
noncomputable def Gx(a:List (List (Int×Int)))(b:List (List (Int×Int))):Option (Bool):=
 if(a.length:Int)=(b.length:Int)then
  (Ee a b 0).bind fun H0=>
  match H0 with
  | .inl q3_=>
   some false
  | .inr q3_=>
   some true
 else
  some false
def Mz:SC:=
 .seq
 (.seq
 (.ops [
 ⟨(some 11),(.move (.tmp 5)),3,none⟩,
 ⟨(some 12),(.move (.tmp 0)),29,none⟩,
 ⟨(some 13),(.call ⟨(.builtin .len), #[(.tmp 12)], #[29]⟩),3,none⟩,
 ⟨(some 14),(.binOp .lss 3 (.tmp 11) (.tmp 13) 3),4,none⟩])
 (.cond (.tmp 14)
 .skip
 (.exit 0)))
 (.seq
 (.block 1
 (.seq
 (.draws [
 (⟨[17,0,0],[17,18,19,20,21,22,23,24,25,26],[17]⟩,⟨(some 17),(.move (.tmp 0)),29,none⟩),
 (⟨[18,5,5],[17,18,19,20,21,22,23,24,25,26],[18]⟩,⟨(some 18),(.move (.tmp 5)),3,none⟩),
 (⟨[19,17,18,0,5],[17,18,19,20,21,22,23,24,25,26],[19]⟩,⟨(some 19),(.indexAddr 29 (.tmp 17) (.tmp 18)),0,none⟩),
 (⟨[20,19,0],[17,18,19,20,21,22,23,24,25,26],[20]⟩,⟨(some 20),(.load 104 (.tmp 19)),104,none⟩),
 (⟨[21,1,1],[17,18,19,20,21,22,23,24,25,26],[21]⟩,⟨(some 21),(.move (.tmp 1)),29,none⟩),
 (⟨[22,5,5],[17,18,19,20,21,22,23,24,25,26],[22]⟩,⟨(some 22),(.move (.tmp 5)),3,none⟩),
 (⟨[23,21,22,1,5],[17,18,19,20,21,22,23,24,25,26],[23]⟩,⟨(some 23),(.indexAddr 29 (.tmp 21) (.tmp 22)),0,none⟩),
 (⟨[24,23,1],[17,18,19,20,21,22,23,24,25,26],[24]⟩,⟨(some 24),(.load 104 (.tmp 23)),104,none⟩),
 (⟨[25,20,24,0,1],[17,18,19,20,21,22,23,24,25,26],[25]⟩,⟨(some 25),(.call ⟨(.value (.func 90)), #[(.tmp 20),(.tmp 24)], #[104,104]⟩),4,none⟩),
 (⟨[26,25,25],[17,18,19,20,21,22,23,24,25,26],[26]⟩,⟨(some 26),(.unOp .not 4 (.tmp 25)),4,none⟩)])
 (.cond (.tmp 26)
 (.seq
 (.ops [
 ⟨(some 4),(.assign (.const (.bool false))),4,none⟩])
 .ret)
 .skip)))
 (.ops [
 ⟨(some 15),(.move (.tmp 5)),3,none⟩,
 ⟨(some 16),(.binOp .add 3 (.tmp 15) (.const (.int .i64 1)) 3),3,none⟩,
 ⟨(some 5),(.assign (.tmp 16)),3,none⟩]))
def UA:SC:= .loop Mz
def uJ:SC:=
 .seq
 (.ops [
 ⟨(some 4),(.assign (.const (.bool false))),4,none⟩])
 (.seq
 (.seq
 (.ops [
 ⟨(some 6),(.move (.tmp 0)),29,none⟩,
 ⟨(some 7),(.call ⟨(.builtin .len), #[(.tmp 6)], #[29]⟩),3,none⟩,
 ⟨(some 8),(.move (.tmp 1)),29,none⟩,
 ⟨(some 9),(.call ⟨(.builtin .len), #[(.tmp 8)], #[29]⟩),3,none⟩,
 ⟨(some 10),(.binOp .neq 3 (.tmp 7) (.tmp 9) 3),4,none⟩])
 (.cond (.tmp 10)
 (.seq
 (.ops [
 ⟨(some 4),(.assign (.const (.bool false))),4,none⟩])
 .ret)
 .skip))
 (.seq
 (.seq
 (.ops [
 ⟨(some 5),(.assign (.const (.int .i64 0))),3,none⟩])
 (.block 0
 UA))
 (.seq
 (.ops [
 ⟨(some 4),(.assign (.const (.bool true))),4,none⟩])
 .ret)))
theorem bt:Try.f48.body.map (BZ lends)=some uJ:=by kernel_rfl
theorem uK:CD Try.f48 2=true:=by kernel_rfl
theorem c48{a l:List D}{r:D×List D}(h:Bw Y.env uJ (Ew AE l.length [ResultVar.tmp 4] r) (entry a l))(ha:a.length=2):Y.call 48 a l=some r:=
 AN (Y:=Y) rfl Try.func48 (ha▸uK) bt h
def C8(a:List (List (Int×Int)))(b:List (List (Int×Int)))(i:Int)(s:St):Prop:=s.v 0=D.sl 104 (A8 (fun x=>D.sl 106 (AT .i64 .i64 x)) a)∧s.v 1=D.sl 104 (A8 (fun x=>D.sl 106 (AT .i64 .i64 x)) b)∧s.v 5=D.int .i64 i
def C9(a:List (List (Int×Int)))(b:List (List (Int×Int)))(r:Unit⊕Unit)(ex:Ex)(s:St):Prop:=match r with
 | .inl q=>ex= .ret∧s.v 4=D.bool false
 | .inr q=>ex= .exit 0
theorem JA(a:List (List (Int×Int)))(b:List (List (Int×Int))){v:Int}{s:St}{r:Unit⊕Unit}(h:Ee a b v=some r)(hM:C8 a b v s):Bw Y.env UA (C9 a b r) s:=by
 unfold Ee at h
 refine CO (c:=Mz) (fun v=>Cd a b v) (fun v s=>C8 a b v s) (C9 a b) ?_ h hM
 clear h hM s v r
 intro i s o hM h
 unfold Cd at h
 unfold C8 at hM
 obtain⟨m0,m1,m2⟩:=hM
 unfold Mz
 by_cases e2:i<(a.length:Int)
 ·rw [if_pos e2]at h
  obtain⟨e3,h⟩:=C7 h
  obtain⟨e4,h⟩:=C7 h
  obtain⟨e5,h⟩:=C7 h
  have c6:=Oq (a.getD i.toNat default) (b.getD i.toNat default) e5
  by_cases e7:(decide ((a.getD i.toNat default)=(b.getD i.toNat default)))=true
  ·rw [if_pos e7]at h
   obtain rfl:=Option.some.inj h
   simp (maxDischargeDepth:=9) only [↓A9,A5,AB,AY,A6,AA,AZ,↓reduceIte,Nat.reduceEqDiff,Nat.reduceLT,Nat.reduceLeDiff,Nat.reduceAdd,Nat.reduceMul,Nat.reduceMod,Nat.reduceDiv,Nat.reducePow,Nat.reduceSub,Nat.reduceBEq,Int.reduceLE,Int.reduceLT,Int.reduceEq,Int.reduceSub,Int.reduceAdd,Int.reduceToNat,Int.reduceNeg,m0,m1,m2,e2,e3.1,e3.2,e4.1,e4.2,e5,c6,e7,C8,C9,D6,D7,D8]<;>(repeat' apply And.intro)<;>first | rfl | exact⟨_,rfl⟩ | exact⟨_,_,rfl⟩ | simp [A8,A3]
  ·rw [if_neg e7]at h
   have e7f:(decide ((a.getD i.toNat default)=(b.getD i.toNat default)))=false:=Bool.eq_false_iff.mpr e7
   obtain rfl:=Option.some.inj h
   simp (maxDischargeDepth:=9) only [↓A9,A5,AB,AY,A6,AA,AZ,↓reduceIte,Nat.reduceEqDiff,Nat.reduceLT,Nat.reduceLeDiff,Nat.reduceAdd,Nat.reduceMul,Nat.reduceMod,Nat.reduceDiv,Nat.reducePow,Nat.reduceSub,Nat.reduceBEq,Int.reduceLE,Int.reduceLT,Int.reduceEq,Int.reduceSub,Int.reduceAdd,Int.reduceToNat,Int.reduceNeg,m0,m1,m2,e2,e3.1,e3.2,e4.1,e4.2,e5,c6,e7f,C8,C9,D6,D7,D8]<;>(repeat' apply And.intro)<;>first | rfl | exact⟨_,rfl⟩ | exact⟨_,_,rfl⟩ | simp [A8,A3]
 ·rw [if_neg e2]at h
  obtain rfl:=Option.some.inj h
  simp (maxDischargeDepth:=9) only [↓A9,A5,AB,AY,A6,AA,AZ,↓reduceIte,Nat.reduceEqDiff,Nat.reduceLT,Nat.reduceLeDiff,Nat.reduceAdd,Nat.reduceMul,Nat.reduceMod,Nat.reduceDiv,Nat.reducePow,Nat.reduceSub,Nat.reduceBEq,Int.reduceLE,Int.reduceLT,Int.reduceEq,Int.reduceSub,Int.reduceAdd,Int.reduceToNat,Int.reduceNeg,m0,m1,m2,e2,C8,C9,D6,D7,D8]<;>(repeat' apply And.intro)<;>first | rfl | exact⟨_,rfl⟩ | exact⟨_,_,rfl⟩ | simp [A8,A3]
theorem Kb(a:List (List (Int×Int)))(b:List (List (Int×Int))){r:Bool}(h:Gx a b=some r):Y.call 48 [D.sl 104 (A8 (fun x=>D.sl 106 (AT .i64 .i64 x)) a),D.sl 104 (A8 (fun x=>D.sl 106 (AT .i64 .i64 x)) b)] []=some (D.bool r,[]):=by
 refine c48 ?_ rfl
 unfold uJ
 unfold Gx at h
 by_cases e1:(a.length:Int)=(b.length:Int)
 ·rw [if_pos e1]at h
  obtain⟨H0,hl3,h⟩:=Bg h
  try dsimp only at h
  simp (maxDischargeDepth:=9) only [↓A9,A5,AB,AY,A6,AA,AZ,↓reduceIte,Nat.reduceEqDiff,Nat.reduceLT,Nat.reduceLeDiff,Nat.reduceAdd,Nat.reduceMul,Nat.reduceMod,Nat.reduceDiv,Nat.reducePow,Nat.reduceSub,Nat.reduceBEq,Int.reduceLE,Int.reduceLT,Int.reduceEq,Int.reduceSub,Int.reduceAdd,Int.reduceToNat,Int.reduceNeg,decide_eq_true e1]
  refine Ba (JA a b hl3 ?_) ?_
  ·simp (maxDischargeDepth:=9) only [↓A9,A5,AB,AY,A6,AA,AZ,↓reduceIte,Nat.reduceEqDiff,Nat.reduceLT,Nat.reduceLeDiff,Nat.reduceAdd,Nat.reduceMul,Nat.reduceMod,Nat.reduceDiv,Nat.reducePow,Nat.reduceSub,Nat.reduceBEq,Int.reduceLE,Int.reduceLT,Int.reduceEq,Int.reduceSub,Int.reduceAdd,Int.reduceToNat,Int.reduceNeg,decide_eq_true e1,C8]<;>(repeat' apply And.intro)<;>first | rfl | exact⟨_,rfl⟩ | exact⟨_,_,rfl⟩ | simp [A8,A3]
  ·intro ex3 s3 hX3
   rcases H0 with q3_ | q3_
   ·unfold C9 at hX3
    dsimp only at hX3 h
    obtain⟨rfl,n3_0⟩:=hX3
    obtain rfl:=Option.some.inj h
    simp (maxDischargeDepth:=9) only [↓A9,A5,AB,AY,A6,AA,AZ,↓reduceIte,Nat.reduceEqDiff,Nat.reduceLT,Nat.reduceLeDiff,Nat.reduceAdd,Nat.reduceMul,Nat.reduceMod,Nat.reduceDiv,Nat.reducePow,Nat.reduceSub,Nat.reduceBEq,Int.reduceLE,Int.reduceLT,Int.reduceEq,Int.reduceSub,Int.reduceAdd,Int.reduceToNat,Int.reduceNeg,decide_eq_true e1,n3_0]<;>(repeat' apply And.intro)<;>first | rfl | exact⟨_,rfl⟩ | exact⟨_,_,rfl⟩ | simp [A8,A3]
   ·unfold C9 at hX3
    dsimp only at hX3 h
    obtain rfl:=hX3
    obtain rfl:=Option.some.inj h
    simp (maxDischargeDepth:=9) only [↓A9,A5,AB,AY,A6,AA,AZ,↓reduceIte,Nat.reduceEqDiff,Nat.reduceLT,Nat.reduceLeDiff,Nat.reduceAdd,Nat.reduceMul,Nat.reduceMod,Nat.reduceDiv,Nat.reducePow,Nat.reduceSub,Nat.reduceBEq,Int.reduceLE,Int.reduceLT,Int.reduceEq,Int.reduceSub,Int.reduceAdd,Int.reduceToNat,Int.reduceNeg,decide_eq_true e1]<;>(repeat' apply And.intro)<;>first | rfl | exact⟨_,rfl⟩ | exact⟨_,_,rfl⟩ | simp [A8,A3]
 ·rw [if_neg e1]at h
  obtain rfl:=Option.some.inj h
  simp (maxDischargeDepth:=9) only [↓A9,A5,AB,AY,A6,AA,AZ,↓reduceIte,Nat.reduceEqDiff,Nat.reduceLT,Nat.reduceLeDiff,Nat.reduceAdd,Nat.reduceMul,Nat.reduceMod,Nat.reduceDiv,Nat.reducePow,Nat.reduceSub,Nat.reduceBEq,Int.reduceLE,Int.reduceLT,Int.reduceEq,Int.reduceSub,Int.reduceAdd,Int.reduceToNat,Int.reduceNeg,e1]<;>(repeat' apply And.intro)<;>first | rfl | exact⟨_,rfl⟩ | exact⟨_,_,rfl⟩ | simp [A8,A3]
theorem N0(a b:List (List (Int×Int)))(ha:BP a):Gx a b=some (decide (a=b)):=by
 have h1:=ha.1
 unfold Gx Ee
 by_cases hl:a.length=b.length
 ·rw [if_pos (by omega)]
  have key:=CT (fun v=>Cd a b v) (fun i=>(i:Int)) a.length (fun i=>decide (a.getD i default=b.getD i default)) (.inl ()) (.inr ()) ?_ ?_
  ·simp only [Int.natCast_zero]at key
   rw [key,KP a b hl]
   by_cases he:a=b<;>simp [he]
  ·intro i hi
   simp only [Cd]
   rw [if_pos (CE hi),C3 (E9 hi),C3 (E9 (by omega)),C3 (by rw [E8 _ _ hi];exact ha.at i hi),Int.toNat_natCast,KQ i (by omega)]<;>simp only [decide_eq_true_eq]
  ·simp only [Cd]
   rw [if_neg (Am _)]
 ·rw [if_neg (by omega)]
  have: ¬a=b:=fun e=>hl (by rw [e])
  simp [this]
theorem N1(a:List (List (Int×Int)))(b:List (List (Int×Int)))(h0:BP a):Y.call 48 [D.sl 104 (A8 (fun x=>D.sl 106 (AT .i64 .i64 x)) a),D.sl 104 (A8 (fun x=>D.sl 106 (AT .i64 .i64 x)) b)] []=some (D.bool (decide (a=b)),[]):=Kb a b (N0 a b h0)
noncomputable def FN(AP:List (List (Int×Int)))(B9:List Int)(AQ:List Int)(EZ:List (List (Int×Int)))(GF:List Int)(Ct:List Int):Option (Bool):=
 ck (BP AP)<|
 if(decide (AP=EZ))=true then
  ck (B9.length<1099511627776)<|
  if(decide (B9=GF))=true then
   ck (AQ.length<1099511627776)<|
   if(decide (AQ=Ct))=true then
    some true
   else
    some false
  else
   some false
 else
  some false
def uL:SC:=
 .seq
 (.ops [
 ⟨(some 2),(.box 31 (.tmp 0)),0,none⟩,
 ⟨(some 3),(.box 31 (.tmp 1)),0,none⟩,
 ⟨(some 4),(.assign (.const (.bool false))),4,none⟩])
 (.seq
 (.seq
 (.ops [
 ⟨(some 5),(.fieldAddr 31 (.tmp 2) 0),0,none⟩,
 ⟨(some 6),(.load 29 (.tmp 5)),29,none⟩,
 ⟨(some 7),(.fieldAddr 31 (.tmp 3) 0),0,none⟩,
 ⟨(some 8),(.load 29 (.tmp 7)),29,none⟩,
 ⟨(some 9),(.call ⟨(.value (.func 48)), #[(.tmp 6),(.tmp 8)], #[29,29]⟩),4,none⟩,
 ⟨(some 10),(.unOp .not 4 (.tmp 9)),4,none⟩])
 (.cond (.tmp 10)
 (.seq
 (.ops [
 ⟨(some 4),(.assign (.const (.bool false))),4,none⟩])
 .ret)
 .skip))
 (.seq
 (.seq
 (.ops [
 ⟨(some 11),(.fieldAddr 31 (.tmp 2) 1),0,none⟩,
 ⟨(some 12),(.load 23 (.tmp 11)),23,none⟩,
 ⟨(some 13),(.fieldAddr 31 (.tmp 3) 1),0,none⟩,
 ⟨(some 14),(.load 23 (.tmp 13)),23,none⟩,
 ⟨(some 15),(.call ⟨(.value (.func 16)), #[(.tmp 12),(.tmp 14)], #[23,23]⟩),4,none⟩,
 ⟨(some 16),(.unOp .not 4 (.tmp 15)),4,none⟩])
 (.cond (.tmp 16)
 (.seq
 (.ops [
 ⟨(some 4),(.assign (.const (.bool false))),4,none⟩])
 .ret)
 .skip))
 (.seq
 (.seq
 (.ops [
 ⟨(some 17),(.fieldAddr 31 (.tmp 2) 2),0,none⟩,
 ⟨(some 18),(.load 23 (.tmp 17)),23,none⟩,
 ⟨(some 19),(.fieldAddr 31 (.tmp 3) 2),0,none⟩,
 ⟨(some 20),(.load 23 (.tmp 19)),23,none⟩,
 ⟨(some 21),(.call ⟨(.value (.func 16)), #[(.tmp 18),(.tmp 20)], #[23,23]⟩),4,none⟩,
 ⟨(some 22),(.unOp .not 4 (.tmp 21)),4,none⟩])
 (.cond (.tmp 22)
 (.seq
 (.ops [
 ⟨(some 4),(.assign (.const (.bool false))),4,none⟩])
 .ret)
 .skip))
 (.seq
 (.ops [
 ⟨(some 4),(.assign (.const (.bool true))),4,none⟩])
 .ret))))
theorem bu:Try.f15.body.map (BZ lends)=some uL:=by kernel_rfl
theorem uM:CD Try.f15 2=true:=by kernel_rfl
theorem LJ{a l:List D}{r:D×List D}(h:Bw Y.env uL (Ew AE l.length [ResultVar.tmp 4] r) (entry a l))(ha:a.length=2):Y.call 15 a l=some r:=
 AN (Y:=Y) rfl Try.func15 (ha▸uM) bu h
theorem IT(AP:List (List (Int×Int)))(B9:List Int)(AQ:List Int)(EZ:List (List (Int×Int)))(GF:List Int)(Ct:List Int){r:Bool}(h:FN AP B9 AQ EZ GF Ct=some r):Y.call 15 [D.agg [D.sl 104 (A8 (fun x=>D.sl 106 (AT .i64 .i64 x)) AP),D.sl 3 (A8 (D.int .i64) B9),D.sl 3 (A8 (D.int .i64) AQ)],D.agg [D.sl 104 (A8 (fun x=>D.sl 106 (AT .i64 .i64 x)) EZ),D.sl 3 (A8 (D.int .i64) GF),D.sl 3 (A8 (D.int .i64) Ct)]] []=some (D.bool r,[]):=by
 refine LJ ?_ rfl
 unfold uL
 unfold FN at h
 obtain⟨e1,h⟩:=C7 h
 have c2:=N1 AP EZ e1
 by_cases e3:(decide (AP=EZ))=true
 ·rw [if_pos e3]at h
  obtain⟨e4,h⟩:=C7 h
  have c5:=Dy B9 GF e4
  by_cases e6:(decide (B9=GF))=true
  ·rw [if_pos e6]at h
   obtain⟨e7,h⟩:=C7 h
   have c8:=Dy AQ Ct e7
   by_cases e9:(decide (AQ=Ct))=true
   ·rw [if_pos e9]at h
    obtain rfl:=Option.some.inj h
    simp (maxDischargeDepth:=9) only [↓A9,A5,AB,AY,A6,AA,AZ,↓reduceIte,Nat.reduceEqDiff,Nat.reduceLT,Nat.reduceLeDiff,Nat.reduceAdd,Nat.reduceMul,Nat.reduceMod,Nat.reduceDiv,Nat.reducePow,Nat.reduceSub,Nat.reduceBEq,Int.reduceLE,Int.reduceLT,Int.reduceEq,Int.reduceSub,Int.reduceAdd,Int.reduceToNat,Int.reduceNeg,e1,c2,e3,e4,c5,e6,e7,c8,e9]<;>(repeat' apply And.intro)<;>first | rfl | exact⟨_,rfl⟩ | exact⟨_,_,rfl⟩ | simp [A8,A3]
   ·rw [if_neg e9]at h
    have e9f:(decide (AQ=Ct))=false:=Bool.eq_false_iff.mpr e9
    obtain rfl:=Option.some.inj h
    simp (maxDischargeDepth:=9) only [↓A9,A5,AB,AY,A6,AA,AZ,↓reduceIte,Nat.reduceEqDiff,Nat.reduceLT,Nat.reduceLeDiff,Nat.reduceAdd,Nat.reduceMul,Nat.reduceMod,Nat.reduceDiv,Nat.reducePow,Nat.reduceSub,Nat.reduceBEq,Int.reduceLE,Int.reduceLT,Int.reduceEq,Int.reduceSub,Int.reduceAdd,Int.reduceToNat,Int.reduceNeg,e1,c2,e3,e4,c5,e6,e7,c8,e9f]<;>(repeat' apply And.intro)<;>first | rfl | exact⟨_,rfl⟩ | exact⟨_,_,rfl⟩ | simp [A8,A3]
  ·rw [if_neg e6]at h
   have e6f:(decide (B9=GF))=false:=Bool.eq_false_iff.mpr e6
   obtain rfl:=Option.some.inj h
   simp (maxDischargeDepth:=9) only [↓A9,A5,AB,AY,A6,AA,AZ,↓reduceIte,Nat.reduceEqDiff,Nat.reduceLT,Nat.reduceLeDiff,Nat.reduceAdd,Nat.reduceMul,Nat.reduceMod,Nat.reduceDiv,Nat.reducePow,Nat.reduceSub,Nat.reduceBEq,Int.reduceLE,Int.reduceLT,Int.reduceEq,Int.reduceSub,Int.reduceAdd,Int.reduceToNat,Int.reduceNeg,e1,c2,e3,e4,c5,e6f]<;>(repeat' apply And.intro)<;>first | rfl | exact⟨_,rfl⟩ | exact⟨_,_,rfl⟩ | simp [A8,A3]
 ·rw [if_neg e3]at h
  have e3f:(decide (AP=EZ))=false:=Bool.eq_false_iff.mpr e3
  obtain rfl:=Option.some.inj h
  simp (maxDischargeDepth:=9) only [↓A9,A5,AB,AY,A6,AA,AZ,↓reduceIte,Nat.reduceEqDiff,Nat.reduceLT,Nat.reduceLeDiff,Nat.reduceAdd,Nat.reduceMul,Nat.reduceMod,Nat.reduceDiv,Nat.reducePow,Nat.reduceSub,Nat.reduceBEq,Int.reduceLE,Int.reduceLT,Int.reduceEq,Int.reduceSub,Int.reduceAdd,Int.reduceToNat,Int.reduceNeg,e1,c2,e3f]<;>(repeat' apply And.intro)<;>first | rfl | exact⟨_,rfl⟩ | exact⟨_,_,rfl⟩ | simp [A8,A3]
def EW(a:List (List (Int×Int)))(b c:List Int)(a':List (List (Int×Int)))(b' c':List Int):Bool:=decide (a=a'∧b=b'∧c=c')
theorem QS(a:List (List (Int×Int)))(b c:List Int):EW a b c a b c=true:=by simp [EW]
theorem Kc(a:List (List (Int×Int)))(b c:List Int)(a':List (List (Int×Int)))(b' c':List Int)(h:BP a)(hb:b.length<1099511627776)(hc:c.length<1099511627776):FN a b c a' b' c'=some (EW a b c a' b' c'):=by
 unfold FN EW
 rw [C3 h,C3 hb,C3 hc]
 by_cases h1:a=a'<;>by_cases h2:b=b'<;>by_cases h3:c=c'<;>simp [h1,h2,h3]
theorem EB(AP:List (List (Int×Int)))(B9:List Int)(AQ:List Int)(EZ:List (List (Int×Int)))(GF:List Int)(Ct:List Int)(h0:BP AP)(h1:B9.length<1099511627776)(h2:AQ.length<1099511627776):Y.call 15 [D.agg [D.sl 104 (A8 (fun x=>D.sl 106 (AT .i64 .i64 x)) AP),D.sl 3 (A8 (D.int .i64) B9),D.sl 3 (A8 (D.int .i64) AQ)],D.agg [D.sl 104 (A8 (fun x=>D.sl 106 (AT .i64 .i64 x)) EZ),D.sl 3 (A8 (D.int .i64) GF),D.sl 3 (A8 (D.int .i64) Ct)]] []=some (D.bool (EW AP B9 AQ EZ GF Ct),[]):=IT AP B9 AQ EZ GF Ct (Kc AP B9 AQ EZ GF Ct h0 h1 h2)
noncomputable def I4(a:List (Int×Int))(left:Int):Option (Int):=
 if(IntKind.i64.wrap (left-(a.length:Int)))<0 then
  some (-1)
 else
  some (IntKind.i64.wrap (left-(a.length:Int)))
def uN:SC:=
 .seq
 (.ops [
 ⟨(some 4),(.assign (.const (.int .i64 0))),3,none⟩])
 (.seq
 (.ops [
 ⟨(some 5),(.move (.tmp 1)),3,none⟩,
 ⟨(some 6),(.move (.tmp 0)),100,none⟩,
 ⟨(some 7),(.call ⟨(.builtin .len), #[(.tmp 6)], #[100]⟩),3,none⟩,
 ⟨(some 8),(.binOp .sub 3 (.tmp 5) (.tmp 7) 3),3,none⟩,
 ⟨(some 1),(.assign (.tmp 8)),3,none⟩])
 (.seq
 (.seq
 (.ops [
 ⟨(some 9),(.move (.tmp 1)),3,none⟩,
 ⟨(some 10),(.binOp .lss 3 (.tmp 9) (.const (.int .i64 0)) 3),4,none⟩])
 (.cond (.tmp 10)
 (.seq
 (.ops [
 ⟨(some 4),(.assign (.const (.int .i64 (-1)))),3,none⟩])
 .ret)
 .skip))
 (.seq
 (.ops [
 ⟨(some 11),(.move (.tmp 1)),3,none⟩,
 ⟨(some 4),(.assign (.tmp 11)),3,none⟩])
 .ret)))
theorem bv:Try.f78.body.map (BZ lends)=some uN:=by kernel_rfl
theorem uO:CD Try.f78 2=true:=by kernel_rfl
theorem c78{a l:List D}{r:D×List D}(h:Bw Y.env uN (Ew AE l.length [ResultVar.tmp 4] r) (entry a l))(ha:a.length=2):Y.call 78 a l=some r:=
 AN (Y:=Y) rfl Try.func78 (ha▸uO) bv h
theorem LK(a:List (Int×Int))(left:Int){r:Int}(h:I4 a left=some r):Y.call 78 [D.sl 134 (AT .i64 .i64 a),D.int .i64 left] []=some (D.int .i64 r,[]):=by
 refine c78 ?_ rfl
 unfold uN
 unfold I4 at h
 by_cases e1:(IntKind.i64.wrap (left-(a.length:Int)))<0
 ·rw [if_pos e1]at h
  obtain rfl:=Option.some.inj h
  simp (maxDischargeDepth:=9) only [↓A9,A5,AB,AY,A6,AA,AZ,↓reduceIte,Nat.reduceEqDiff,Nat.reduceLT,Nat.reduceLeDiff,Nat.reduceAdd,Nat.reduceMul,Nat.reduceMod,Nat.reduceDiv,Nat.reducePow,Nat.reduceSub,Nat.reduceBEq,Int.reduceLE,Int.reduceLT,Int.reduceEq,Int.reduceSub,Int.reduceAdd,Int.reduceToNat,Int.reduceNeg,e1]<;>(repeat' apply And.intro)<;>first | rfl | exact⟨_,rfl⟩ | exact⟨_,_,rfl⟩ | simp [A8,A3]
 ·rw [if_neg e1]at h
  obtain rfl:=Option.some.inj h
  simp (maxDischargeDepth:=9) only [↓A9,A5,AB,AY,A6,AA,AZ,↓reduceIte,Nat.reduceEqDiff,Nat.reduceLT,Nat.reduceLeDiff,Nat.reduceAdd,Nat.reduceMul,Nat.reduceMod,Nat.reduceDiv,Nat.reducePow,Nat.reduceSub,Nat.reduceBEq,Int.reduceLE,Int.reduceLT,Int.reduceEq,Int.reduceSub,Int.reduceAdd,Int.reduceToNat,Int.reduceNeg,e1]<;>(repeat' apply And.intro)<;>first | rfl | exact⟨_,rfl⟩ | exact⟨_,_,rfl⟩ | simp [A8,A3]
theorem Ot(a:List (Int×Int))(left:Int)(ha:a.length<9223372036854775808)(hl:0≤left∧left≤1048576):I4 a left=some (DF left a.length):=by
 unfold I4 DF
 rw [MZ _ (by omega)]
 split<;>rfl
theorem Ou(a:List (Int×Int))(left:Int)(h0:a.length<9223372036854775808)(h1:0≤left∧left≤1048576):Y.call 78 [D.sl 134 (AT .i64 .i64 a),D.int .i64 left] []=some (D.int .i64 (DF left a.length),[]):=LK a left (Ot a left h0 h1)
noncomputable def Ce(a:List (List (Int×Int)))(left1:Int)(i:Int):Option ((Int×Int)⊕(Unit⊕Int)):=
 if i<(a.length:Int)then
  ck (0≤i∧i.toNat<a.length)<|
  ck ((a.getD i.toNat default).length<9223372036854775808)<|
  ck (0≤left1∧left1≤1048576)<|
  if(DF left1 (a.getD i.toNat default).length)<0 then
   some (Sum.inr (Sum.inl ()))
  else
   some (Sum.inl ((DF left1 (a.getD i.toNat default).length),IntKind.i64.wrap (i+1)))
 else
  some (Sum.inr (Sum.inr left1))
noncomputable def Cq(a:List (List (Int×Int)))(v:Int×Int):Option (Unit⊕Int):=Gc (fun v=>Ce a v.1 v.2) v
noncomputable def Gy(a:List (List (Int×Int)))(left:Int):Option (Int):=
 if(IntKind.i64.wrap (left-(a.length:Int)))<0 then
  some (-1)
 else
  (Cq a (IntKind.i64.wrap (left-(a.length:Int)),0)).bind fun H0=>
  match H0 with
  | .inl q3_=>
   some (-1)
  | .inr q3_=>
   some q3_
def N2:SC:=
 .seq
 (.seq
 (.ops [
 ⟨(some 12),(.move (.tmp 5)),3,none⟩,
 ⟨(some 13),(.move (.tmp 0)),22,none⟩,
 ⟨(some 14),(.call ⟨(.builtin .len), #[(.tmp 13)], #[22]⟩),3,none⟩,
 ⟨(some 15),(.binOp .lss 3 (.tmp 12) (.tmp 14) 3),4,none⟩])
 (.cond (.tmp 15)
 .skip
 (.exit 0)))
 (.seq
 (.block 1
 (.seq
 (.ops [
 ⟨(some 18),(.move (.tmp 0)),22,none⟩,
 ⟨(some 19),(.move (.tmp 5)),3,none⟩,
 ⟨(some 20),(.indexAddr 22 (.tmp 18) (.tmp 19)),0,none⟩,
 ⟨(some 21),(.load 100 (.tmp 20)),100,none⟩,
 ⟨(some 22),(.move (.tmp 1)),3,none⟩,
 ⟨(some 23),(.call ⟨(.value (.func 78)), #[(.tmp 21),(.tmp 22)], #[100,3]⟩),3,none⟩,
 ⟨(some 1),(.assign (.tmp 23)),3,none⟩])
 (.seq
 (.ops [
 ⟨(some 24),(.move (.tmp 1)),3,none⟩,
 ⟨(some 25),(.binOp .lss 3 (.tmp 24) (.const (.int .i64 0)) 3),4,none⟩])
 (.cond (.tmp 25)
 (.seq
 (.ops [
 ⟨(some 4),(.assign (.const (.int .i64 (-1)))),3,none⟩])
 .ret)
 .skip))))
 (.ops [
 ⟨(some 16),(.move (.tmp 5)),3,none⟩,
 ⟨(some 17),(.binOp .add 3 (.tmp 16) (.const (.int .i64 1)) 3),3,none⟩,
 ⟨(some 5),(.assign (.tmp 17)),3,none⟩]))
def UB:SC:= .loop N2
def uP:SC:=
 .seq
 (.ops [
 ⟨(some 4),(.assign (.const (.int .i64 0))),3,none⟩])
 (.seq
 (.ops [
 ⟨(some 6),(.move (.tmp 1)),3,none⟩,
 ⟨(some 7),(.move (.tmp 0)),22,none⟩,
 ⟨(some 8),(.call ⟨(.builtin .len), #[(.tmp 7)], #[22]⟩),3,none⟩,
 ⟨(some 9),(.binOp .sub 3 (.tmp 6) (.tmp 8) 3),3,none⟩,
 ⟨(some 1),(.assign (.tmp 9)),3,none⟩])
 (.seq
 (.seq
 (.ops [
 ⟨(some 10),(.move (.tmp 1)),3,none⟩,
 ⟨(some 11),(.binOp .lss 3 (.tmp 10) (.const (.int .i64 0)) 3),4,none⟩])
 (.cond (.tmp 11)
 (.seq
 (.ops [
 ⟨(some 4),(.assign (.const (.int .i64 (-1)))),3,none⟩])
 .ret)
 .skip))
 (.seq
 (.seq
 (.ops [
 ⟨(some 5),(.assign (.const (.int .i64 0))),3,none⟩])
 (.block 0
 UB))
 (.seq
 (.ops [
 ⟨(some 26),(.move (.tmp 1)),3,none⟩,
 ⟨(some 4),(.assign (.tmp 26)),3,none⟩])
 .ret))))
theorem bw:Try.f41.body.map (BZ lends)=some uP:=by kernel_rfl
theorem uQ:CD Try.f41 2=true:=by kernel_rfl
theorem c41{a l:List D}{r:D×List D}(h:Bw Y.env uP (Ew AE l.length [ResultVar.tmp 4] r) (entry a l))(ha:a.length=2):Y.call 41 a l=some r:=
 AN (Y:=Y) rfl Try.func41 (ha▸uQ) bw h
def CA(a:List (List (Int×Int)))(left1:Int)(i:Int)(s:St):Prop:=s.v 0=D.sl 100 (A8 (fun x=>D.sl 134 (AT .i64 .i64 x)) a)∧s.v 1=D.int .i64 left1∧s.v 5=D.int .i64 i
def CB(a:List (List (Int×Int)))(r:Unit⊕Int)(ex:Ex)(s:St):Prop:=match r with
 | .inl q=>ex= .ret∧s.v 4=D.int .i64 (-1)
 | .inr q=>ex= .exit 0∧s.v 1=D.int .i64 q
theorem JB(a:List (List (Int×Int))){v:Int×Int}{s:St}{r:Unit⊕Int}(h:Cq a v=some r)(hM:CA a v.1 v.2 s):Bw Y.env UB (CB a r) s:=by
 unfold Cq at h
 refine CO (c:=N2) (fun v=>Ce a v.1 v.2) (fun v s=>CA a v.1 v.2 s) (CB a) ?_ h hM
 clear h hM s v r
 intro v s o hM h
 obtain⟨left1,i⟩:=v
 dsimp only at h hM
 unfold Ce at h
 unfold CA at hM
 obtain⟨m0,m1,m2⟩:=hM
 unfold N2
 by_cases e2:i<(a.length:Int)
 ·rw [if_pos e2]at h
  obtain⟨e3,h⟩:=C7 h
  obtain⟨e4,h⟩:=C7 h
  obtain⟨e5,h⟩:=C7 h
  have c6:=Ou (a.getD i.toNat default) left1 e4 e5
  by_cases e7:(DF left1 (a.getD i.toNat default).length)<0
  ·rw [if_pos e7]at h
   obtain rfl:=Option.some.inj h
   simp (maxDischargeDepth:=9) only [↓A9,A5,AB,AY,A6,AA,AZ,↓reduceIte,Nat.reduceEqDiff,Nat.reduceLT,Nat.reduceLeDiff,Nat.reduceAdd,Nat.reduceMul,Nat.reduceMod,Nat.reduceDiv,Nat.reducePow,Nat.reduceSub,Nat.reduceBEq,Int.reduceLE,Int.reduceLT,Int.reduceEq,Int.reduceSub,Int.reduceAdd,Int.reduceToNat,Int.reduceNeg,m0,m1,m2,e2,e3.1,e3.2,e4,e5.1,e5.2,c6,e7,CA,CB,D6,D7,D8]<;>(repeat' apply And.intro)<;>first | rfl | exact⟨_,rfl⟩ | exact⟨_,_,rfl⟩ | simp [A8,A3]
  ·rw [if_neg e7]at h
   obtain rfl:=Option.some.inj h
   simp (maxDischargeDepth:=9) only [↓A9,A5,AB,AY,A6,AA,AZ,↓reduceIte,Nat.reduceEqDiff,Nat.reduceLT,Nat.reduceLeDiff,Nat.reduceAdd,Nat.reduceMul,Nat.reduceMod,Nat.reduceDiv,Nat.reducePow,Nat.reduceSub,Nat.reduceBEq,Int.reduceLE,Int.reduceLT,Int.reduceEq,Int.reduceSub,Int.reduceAdd,Int.reduceToNat,Int.reduceNeg,m0,m1,m2,e2,e3.1,e3.2,e4,e5.1,e5.2,c6,e7,CA,CB,D6,D7,D8]<;>(repeat' apply And.intro)<;>first | rfl | exact⟨_,rfl⟩ | exact⟨_,_,rfl⟩ | simp [A8,A3]
 ·rw [if_neg e2]at h
  obtain rfl:=Option.some.inj h
  simp (maxDischargeDepth:=9) only [↓A9,A5,AB,AY,A6,AA,AZ,↓reduceIte,Nat.reduceEqDiff,Nat.reduceLT,Nat.reduceLeDiff,Nat.reduceAdd,Nat.reduceMul,Nat.reduceMod,Nat.reduceDiv,Nat.reducePow,Nat.reduceSub,Nat.reduceBEq,Int.reduceLE,Int.reduceLT,Int.reduceEq,Int.reduceSub,Int.reduceAdd,Int.reduceToNat,Int.reduceNeg,m0,m1,m2,e2,CA,CB,D6,D7,D8]<;>(repeat' apply And.intro)<;>first | rfl | exact⟨_,rfl⟩ | exact⟨_,_,rfl⟩ | simp [A8,A3]
theorem Kd(a:List (List (Int×Int)))(left:Int){r:Int}(h:Gy a left=some r):Y.call 41 [D.sl 100 (A8 (fun x=>D.sl 134 (AT .i64 .i64 x)) a),D.int .i64 left] []=some (D.int .i64 r,[]):=by
 refine c41 ?_ rfl
 unfold uP
 unfold Gy at h
 by_cases e1:(IntKind.i64.wrap (left-(a.length:Int)))<0
 ·rw [if_pos e1]at h
  obtain rfl:=Option.some.inj h
  simp (maxDischargeDepth:=9) only [↓A9,A5,AB,AY,A6,AA,AZ,↓reduceIte,Nat.reduceEqDiff,Nat.reduceLT,Nat.reduceLeDiff,Nat.reduceAdd,Nat.reduceMul,Nat.reduceMod,Nat.reduceDiv,Nat.reducePow,Nat.reduceSub,Nat.reduceBEq,Int.reduceLE,Int.reduceLT,Int.reduceEq,Int.reduceSub,Int.reduceAdd,Int.reduceToNat,Int.reduceNeg,e1]<;>(repeat' apply And.intro)<;>first | rfl | exact⟨_,rfl⟩ | exact⟨_,_,rfl⟩ | simp [A8,A3]
 ·rw [if_neg e1]at h
  obtain⟨H0,hl3,h⟩:=Bg h
  try dsimp only at h
  simp (maxDischargeDepth:=9) only [↓A9,A5,AB,AY,A6,AA,AZ,↓reduceIte,Nat.reduceEqDiff,Nat.reduceLT,Nat.reduceLeDiff,Nat.reduceAdd,Nat.reduceMul,Nat.reduceMod,Nat.reduceDiv,Nat.reducePow,Nat.reduceSub,Nat.reduceBEq,Int.reduceLE,Int.reduceLT,Int.reduceEq,Int.reduceSub,Int.reduceAdd,Int.reduceToNat,Int.reduceNeg,e1]
  refine Ba (JB a hl3 ?_) ?_
  ·simp (maxDischargeDepth:=9) only [↓A9,A5,AB,AY,A6,AA,AZ,↓reduceIte,Nat.reduceEqDiff,Nat.reduceLT,Nat.reduceLeDiff,Nat.reduceAdd,Nat.reduceMul,Nat.reduceMod,Nat.reduceDiv,Nat.reducePow,Nat.reduceSub,Nat.reduceBEq,Int.reduceLE,Int.reduceLT,Int.reduceEq,Int.reduceSub,Int.reduceAdd,Int.reduceToNat,Int.reduceNeg,e1,CA]<;>(repeat' apply And.intro)<;>first | rfl | exact⟨_,rfl⟩ | exact⟨_,_,rfl⟩ | simp [A8,A3]
  ·intro ex3 s3 hX3
   rcases H0 with q3_ | q3_
   ·unfold CB at hX3
    dsimp only at hX3 h
    obtain⟨rfl,n3_0⟩:=hX3
    obtain rfl:=Option.some.inj h
    simp (maxDischargeDepth:=9) only [↓A9,A5,AB,AY,A6,AA,AZ,↓reduceIte,Nat.reduceEqDiff,Nat.reduceLT,Nat.reduceLeDiff,Nat.reduceAdd,Nat.reduceMul,Nat.reduceMod,Nat.reduceDiv,Nat.reducePow,Nat.reduceSub,Nat.reduceBEq,Int.reduceLE,Int.reduceLT,Int.reduceEq,Int.reduceSub,Int.reduceAdd,Int.reduceToNat,Int.reduceNeg,e1,n3_0]<;>(repeat' apply And.intro)<;>first | rfl | exact⟨_,rfl⟩ | exact⟨_,_,rfl⟩ | simp [A8,A3]
   ·unfold CB at hX3
    dsimp only at hX3 h
    obtain⟨rfl,n3_0⟩:=hX3
    obtain rfl:=Option.some.inj h
    simp (maxDischargeDepth:=9) only [↓A9,A5,AB,AY,A6,AA,AZ,↓reduceIte,Nat.reduceEqDiff,Nat.reduceLT,Nat.reduceLeDiff,Nat.reduceAdd,Nat.reduceMul,Nat.reduceMod,Nat.reduceDiv,Nat.reducePow,Nat.reduceSub,Nat.reduceBEq,Int.reduceLE,Int.reduceLT,Int.reduceEq,Int.reduceSub,Int.reduceAdd,Int.reduceToNat,Int.reduceNeg,e1,n3_0]<;>(repeat' apply And.intro)<;>first | rfl | exact⟨_,rfl⟩ | exact⟨_,_,rfl⟩ | simp [A8,A3]
def fE(l:List (List (Int×Int))):List (List Int):=l.map fun x=>x.map Prod.fst
theorem JC(a:List (List (Int×Int)))(ha:a.length<4611686018427387904)(hx: ∀x∈a,x.length<9223372036854775808): ∀(n i:Nat) (left:Int),n=a.length-i→i≤a.length→0≤left∧left≤1048576→
  Cq a (left,(i:Int))=some (if ZA left (fE (a.drop i))= -1 then .inl ()else .inr (ZA left (fE (a.drop i)))):=by
 intro n
 induction n with
 | zero=>
  intro i left hn hi hl
  have e:i=a.length:=by omega
  subst e
  unfold Cq
  rw [Me (r:=Sum.inr left)]
  ·rw [List.drop_length,show fE []=[]from rfl];unfold ZA;rw [if_neg (by omega)]
  ·simp only [Ce];rw [if_neg (Am _)]
 | succ n ih=>
  intro i left hn hi hl
  have hlt:i<a.length:=by omega
  have hm:a[i]∈a:=List.getElem_mem hlt
  have hxm:=hx _ hm
  have step:Ce a left i=if DF left a[i].length<0 then some (Sum.inr (Sum.inl ()))else some (Sum.inl (DF left a[i].length,((i+1:Nat):Int))):=by
   unfold Ce
   rw [if_pos (CE hlt),C3 (E9 hlt),C3 (by rw [E8 _ _ hlt];exact hxm),C3 hl,E8 _ _ hlt,KQ i (by omega)]
  rw [List.drop_eq_getElem_cons hlt,show fE (a[i]::a.drop (i+1))=a[i].map Prod.fst::fE (a.drop (i+1))from rfl]
  unfold ZA
  rw [List.length_map]
  by_cases hq:left-(a[i].length:Int)<0
  ·rw [if_pos hq]
   unfold Cq
   rw [Me (r:=Sum.inl ())]
   ·rfl
   ·rw [step];unfold DF;rw [if_pos hq];rfl
  ·rw [if_neg hq]
   have e2:DF left a[i].length=left-a[i].length:=by unfold DF;rw [if_neg hq]
   have:=ih (i+1) (left-a[i].length) (by omega) (by omega) (by omega)
   unfold Cq at this ⊢
   rw [Qr (s':=(left-(a[i].length:Int),((i+1:Nat):Int))),this]
   ·rw [step,e2,if_neg hq]
def H8(l:List (List (Int×Int))):Prop:=l.length<9223372036854775808∧ ∀x∈l,x.length<9223372036854775808
instance (l:List (List (Int×Int))):Decidable (H8 l):=by unfold H8;infer_instance
theorem N3(a:List (List (Int×Int)))(left:Int)(hw:H8 a)(hl:0≤left∧left≤1048576):Gy a left=some (DF left (a.length+F7 (fE a))):=by
 have ht:=EI (fE a)
 have ha:=hw.1
 unfold Gy
 rw [MZ _ (by omega)]
 by_cases hq:left-(a.length:Int)<0
 ·rw [if_pos hq];unfold DF;rw [if_pos (by omega)]
 ·rw [if_neg hq]
  have h0:=JC a (by omega) hw.2 a.length 0 (left-a.length) (by omega) (by omega) (by omega)
  simp only [Int.natCast_zero,List.drop_zero]at h0
  rw [h0,Option.bind_some,bd _ _ (by omega)]
  have e:DF (left-a.length) (F7 (fE a))=DF left (a.length+F7 (fE a)):=by unfold DF;rw [show left- ↑a.length-F7 (fE a)=left-(↑a.length+F7 (fE a)) by omega]
  rw [e]
  by_cases h1:DF left (a.length+F7 (fE a))= -1
  ·rw [if_pos h1,h1]
  ·rw [if_neg h1]
theorem N4(a:List (List (Int×Int)))(left:Int)(h0:H8 a)(h1:0≤left∧left≤1048576):Y.call 41 [D.sl 100 (A8 (fun x=>D.sl 134 (AT .i64 .i64 x)) a),D.int .i64 left] []=some (D.int .i64 (DF left (a.length+F7 (fE a))),[]):=Kd a left (N3 a left h0 h1)
noncomputable def FO(AP:List (List (Int×Int)))(B9:List Int)(AQ:List Int)(left:Int):Option (Int):=
 ck (H8 AP)<|
 ck (0≤left∧left≤1048576)<|
 if(DF left (AP.length+F7 (fE AP)))<0 then
  some (-1)
 else
  ck (B9.length<9223372036854775808)<|
  ck (0≤(DF left (AP.length+F7 (fE AP)))∧(DF left (AP.length+F7 (fE AP)))≤1048576)<|
  if(DF (DF left (AP.length+F7 (fE AP))) B9.length)<0 then
   some (-1)
  else
   ck (AQ.length<9223372036854775808)<|
   ck (0≤(DF (DF left (AP.length+F7 (fE AP))) B9.length)∧(DF (DF left (AP.length+F7 (fE AP))) B9.length)≤1048576)<|
   if(DF (DF (DF left (AP.length+F7 (fE AP))) B9.length) AQ.length)<0 then
    some (-1)
   else
    some (DF (DF (DF left (AP.length+F7 (fE AP))) B9.length) AQ.length)
def uR:SC:=
 .seq
 (.ops [
 ⟨(some 2),(.box 25 (.tmp 0)),0,none⟩,
 ⟨(some 4),(.assign (.const (.int .i64 0))),3,none⟩])
 (.seq
 (.ops [
 ⟨(some 5),(.fieldAddr 25 (.tmp 2) 0),0,none⟩,
 ⟨(some 6),(.load 22 (.tmp 5)),22,none⟩,
 ⟨(some 7),(.move (.tmp 1)),3,none⟩,
 ⟨(some 8),(.call ⟨(.value (.func 41)), #[(.tmp 6),(.tmp 7)], #[22,3]⟩),3,none⟩,
 ⟨(some 1),(.assign (.tmp 8)),3,none⟩])
 (.seq
 (.seq
 (.ops [
 ⟨(some 9),(.move (.tmp 1)),3,none⟩,
 ⟨(some 10),(.binOp .lss 3 (.tmp 9) (.const (.int .i64 0)) 3),4,none⟩])
 (.cond (.tmp 10)
 (.seq
 (.ops [
 ⟨(some 4),(.assign (.const (.int .i64 (-1)))),3,none⟩])
 .ret)
 .skip))
 (.seq
 (.ops [
 ⟨(some 11),(.fieldAddr 25 (.tmp 2) 1),0,none⟩,
 ⟨(some 12),(.load 23 (.tmp 11)),23,none⟩,
 ⟨(some 13),(.move (.tmp 1)),3,none⟩,
 ⟨(some 14),(.call ⟨(.value (.func 42)), #[(.tmp 12),(.tmp 13)], #[23,3]⟩),3,none⟩,
 ⟨(some 1),(.assign (.tmp 14)),3,none⟩])
 (.seq
 (.seq
 (.ops [
 ⟨(some 15),(.move (.tmp 1)),3,none⟩,
 ⟨(some 16),(.binOp .lss 3 (.tmp 15) (.const (.int .i64 0)) 3),4,none⟩])
 (.cond (.tmp 16)
 (.seq
 (.ops [
 ⟨(some 4),(.assign (.const (.int .i64 (-1)))),3,none⟩])
 .ret)
 .skip))
 (.seq
 (.ops [
 ⟨(some 17),(.fieldAddr 25 (.tmp 2) 2),0,none⟩,
 ⟨(some 18),(.load 23 (.tmp 17)),23,none⟩,
 ⟨(some 19),(.move (.tmp 1)),3,none⟩,
 ⟨(some 20),(.call ⟨(.value (.func 42)), #[(.tmp 18),(.tmp 19)], #[23,3]⟩),3,none⟩,
 ⟨(some 1),(.assign (.tmp 20)),3,none⟩])
 (.seq
 (.seq
 (.ops [
 ⟨(some 21),(.move (.tmp 1)),3,none⟩,
 ⟨(some 22),(.binOp .lss 3 (.tmp 21) (.const (.int .i64 0)) 3),4,none⟩])
 (.cond (.tmp 22)
 (.seq
 (.ops [
 ⟨(some 4),(.assign (.const (.int .i64 (-1)))),3,none⟩])
 .ret)
 .skip))
 (.seq
 (.ops [
 ⟨(some 23),(.move (.tmp 1)),3,none⟩,
 ⟨(some 4),(.assign (.tmp 23)),3,none⟩])
 .ret)))))))
theorem bx:Try.f10.body.map (BZ lends)=some uR:=by kernel_rfl
theorem uS:CD Try.f10 2=true:=by kernel_rfl
theorem c10{a l:List D}{r:D×List D}(h:Bw Y.env uR (Ew AE l.length [ResultVar.tmp 4] r) (entry a l))(ha:a.length=2):Y.call 10 a l=some r:=
 AN (Y:=Y) rfl Try.func10 (ha▸uS) bx h
theorem IU(AP:List (List (Int×Int)))(B9:List Int)(AQ:List Int)(left:Int){r:Int}(h:FO AP B9 AQ left=some r):Y.call 10 [D.agg [D.sl 100 (A8 (fun x=>D.sl 134 (AT .i64 .i64 x)) AP),D.sl 3 (A8 (D.int .i64) B9),D.sl 3 (A8 (D.int .i64) AQ)],D.int .i64 left] []=some (D.int .i64 r,[]):=by
 refine c10 ?_ rfl
 unfold uR
 unfold FO at h
 obtain⟨e1,h⟩:=C7 h
 obtain⟨e2,h⟩:=C7 h
 have c3:=N4 AP left e1 e2
 by_cases e4:(DF left (AP.length+F7 (fE AP)))<0
 ·rw [if_pos e4]at h
  obtain rfl:=Option.some.inj h
  simp (maxDischargeDepth:=9) only [↓A9,A5,AB,AY,A6,AA,AZ,↓reduceIte,Nat.reduceEqDiff,Nat.reduceLT,Nat.reduceLeDiff,Nat.reduceAdd,Nat.reduceMul,Nat.reduceMod,Nat.reduceDiv,Nat.reducePow,Nat.reduceSub,Nat.reduceBEq,Int.reduceLE,Int.reduceLT,Int.reduceEq,Int.reduceSub,Int.reduceAdd,Int.reduceToNat,Int.reduceNeg,e1,e2.1,e2.2,c3,e4]<;>(repeat' apply And.intro)<;>first | rfl | exact⟨_,rfl⟩ | exact⟨_,_,rfl⟩ | simp [A8,A3]
 ·rw [if_neg e4]at h
  obtain⟨e5,h⟩:=C7 h
  obtain⟨e6,h⟩:=C7 h
  have c7:=Iw B9 (DF left (AP.length+F7 (fE AP))) e5 e6
  by_cases e8:(DF (DF left (AP.length+F7 (fE AP))) B9.length)<0
  ·rw [if_pos e8]at h
   obtain rfl:=Option.some.inj h
   simp (maxDischargeDepth:=9) only [↓A9,A5,AB,AY,A6,AA,AZ,↓reduceIte,Nat.reduceEqDiff,Nat.reduceLT,Nat.reduceLeDiff,Nat.reduceAdd,Nat.reduceMul,Nat.reduceMod,Nat.reduceDiv,Nat.reducePow,Nat.reduceSub,Nat.reduceBEq,Int.reduceLE,Int.reduceLT,Int.reduceEq,Int.reduceSub,Int.reduceAdd,Int.reduceToNat,Int.reduceNeg,e1,e2.1,e2.2,c3,e4,e5,e6.1,e6.2,c7,e8]<;>(repeat' apply And.intro)<;>first | rfl | exact⟨_,rfl⟩ | exact⟨_,_,rfl⟩ | simp [A8,A3]
  ·rw [if_neg e8]at h
   obtain⟨e9,h⟩:=C7 h
   obtain⟨e10,h⟩:=C7 h
   have Kr:=Iw AQ (DF (DF left (AP.length+F7 (fE AP))) B9.length) e9 e10
   by_cases e12:(DF (DF (DF left (AP.length+F7 (fE AP))) B9.length) AQ.length)<0
   ·rw [if_pos e12]at h
    obtain rfl:=Option.some.inj h
    simp (maxDischargeDepth:=9) only [↓A9,A5,AB,AY,A6,AA,AZ,↓reduceIte,Nat.reduceEqDiff,Nat.reduceLT,Nat.reduceLeDiff,Nat.reduceAdd,Nat.reduceMul,Nat.reduceMod,Nat.reduceDiv,Nat.reducePow,Nat.reduceSub,Nat.reduceBEq,Int.reduceLE,Int.reduceLT,Int.reduceEq,Int.reduceSub,Int.reduceAdd,Int.reduceToNat,Int.reduceNeg,e1,e2.1,e2.2,c3,e4,e5,e6.1,e6.2,c7,e8,e9,e10.1,e10.2,Kr,e12]<;>(repeat' apply And.intro)<;>first | rfl | exact⟨_,rfl⟩ | exact⟨_,_,rfl⟩ | simp [A8,A3]
   ·rw [if_neg e12]at h
    obtain rfl:=Option.some.inj h
    simp (maxDischargeDepth:=9) only [↓A9,A5,AB,AY,A6,AA,AZ,↓reduceIte,Nat.reduceEqDiff,Nat.reduceLT,Nat.reduceLeDiff,Nat.reduceAdd,Nat.reduceMul,Nat.reduceMod,Nat.reduceDiv,Nat.reducePow,Nat.reduceSub,Nat.reduceBEq,Int.reduceLE,Int.reduceLT,Int.reduceEq,Int.reduceSub,Int.reduceAdd,Int.reduceToNat,Int.reduceNeg,e1,e2.1,e2.2,c3,e4,e5,e6.1,e6.2,c7,e8,e9,e10.1,e10.2,Kr,e12]<;>(repeat' apply And.intro)<;>first | rfl | exact⟨_,rfl⟩ | exact⟨_,_,rfl⟩ | simp [A8,A3]
def Ub(left:Int)(a:List (List (Int×Int)))(b c:List Int):Int:=
 if DF left (a.length+F7 (fE a))<0 then-1 else if DF (DF left (a.length+F7 (fE a))) b.length<0 then-1 else DF (DF (DF left (a.length+F7 (fE a))) b.length) c.length
theorem Ke(a:List (List (Int×Int)))(b c:List Int)(left:Int)(ha:H8 a)(hb:b.length<9223372036854775808)(hc:c.length<9223372036854775808)(hl:0≤left∧left≤1048576):FO a b c left=some (Ub left a b c):=by
 have ht:=EI (fE a)
 unfold FO Ub
 rw [C3 ha,C3 hl]
 by_cases h1:DF left (a.length+F7 (fE a))<0
 ·rw [if_pos h1,if_pos h1]
 ·rw [if_neg h1,if_neg h1]
  have b1:0≤DF left (a.length+F7 (fE a))∧DF left (a.length+F7 (fE a))≤1048576:=by
   rcases El left (a.length+F7 (fE a))with c | ⟨c,c'⟩<;>omega
  rw [C3 hb,C3 b1]
  by_cases h2:DF (DF left (a.length+F7 (fE a))) b.length<0
  ·rw [if_pos h2,if_pos h2]
  ·rw [if_neg h2,if_neg h2]
   have b2:0≤DF (DF left (a.length+F7 (fE a))) b.length∧DF (DF left (a.length+F7 (fE a))) b.length≤1048576:=by
    rcases El (DF left (a.length+F7 (fE a))) b.length with c | ⟨c,c'⟩<;>omega
   rw [C3 hc,C3 b2]
   by_cases h3:DF (DF (DF left (a.length+F7 (fE a))) b.length) c.length<0
   ·rw [if_pos h3]
    rcases El (DF (DF left (a.length+F7 (fE a))) b.length) c.length with d | ⟨d,d'⟩
    ·rw [d]
    ·omega
   ·rw [if_neg h3]
theorem Kf(AP:List (List (Int×Int)))(B9:List Int)(AQ:List Int)(left:Int)(h0:H8 AP)(h1:B9.length<9223372036854775808)(h2:AQ.length<9223372036854775808)(h3:0≤left∧left≤1048576):Y.call 10 [D.agg [D.sl 100 (A8 (fun x=>D.sl 134 (AT .i64 .i64 x)) AP),D.sl 3 (A8 (D.int .i64) B9),D.sl 3 (A8 (D.int .i64) AQ)],D.int .i64 left] []=some (D.int .i64 (Ub left AP B9 AQ),[]):=IU AP B9 AQ left (Ke AP B9 AQ left h0 h1 h2 h3)
theorem Vl{a:List (List (Int×Int))}{b c:List Int}{left:Int}(hl:left≤1048576)(h: ¬Ub left a b c<0):a.length+F7 (fE a)+b.length+c.length≤1048576∧BP a∧Ub left a b c≤left:=by
 have ht:=EI (fE a)
 have key:(a.length:Int)+F7 (fE a)+b.length+c.length≤1048576∧Ub left a b c≤left:=by
  unfold Ub at h ⊢
  rcases El left (a.length+F7 (fE a))with d | ⟨d,d'⟩
  ·rw [d]at h;simp at h
  ·rw [d,if_neg (by omega)]at h
   rw [d,if_neg (by omega)]
   rcases El (left-(a.length+F7 (fE a))) b.length with e | ⟨e,e'⟩
   ·rw [e]at h;simp at h
   ·rw [e,if_neg (by omega)]at h
    rw [e,if_neg (by omega)]
    rcases El (left-(a.length+F7 (fE a))-b.length) c.length with g | ⟨g,g'⟩
    ·rw [g]at h;simp at h
    ·rw [g];omega
 refine⟨key.1,⟨by omega,fun x hx=> ?_⟩,key.2⟩
 have:x.map Prod.fst∈fE a:=List.mem_map.2 ⟨x,hx,rfl⟩
 have:=Vf this
 rw [List.length_map]at this
 omega
theorem UC{l:List (List (Int×Int))}(h:QG l):H8 l:=⟨Nat.lt_of_le_of_lt h.1 (by decide),fun x hx=>Nat.lt_of_le_of_lt (h.2 x hx).1 (by decide)⟩
end Go.Proofs.Ytjjahjjhohcidaa
