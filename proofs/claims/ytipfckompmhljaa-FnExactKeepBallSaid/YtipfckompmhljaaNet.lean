/- Networks copied, compared, measured; when lists are a network, as plain functions. Conditions: the lists are short. -/
import Derived.Test.YtipfckompmhljaaL6
import Derived.Test.YtipfckompmhljaaHas
import Derived.Test.YtipfckompmhljaaCon
namespace Go.Proofs.Ytipfckompmhljaa
open Go Dv
set_option linter.unusedSimpArgs false
set_option linter.unusedVariables false
set_option maxRecDepth 100000
set_option maxHeartbeats 4000000
def BX(l:List (List (Int×Int))):Prop:=l.length<1099511627776∧ ∀x∈l,x.length<549755813888
instance (l:List (List (Int×Int))):Decidable (BX l):=by unfold BX;infer_instance
theorem BX.at{l:List (List (Int×Int))}(h:BX l)(i:Nat)(hi:i<l.length):l[i].length<549755813888:=h.2 _ (List.getElem_mem hi)
theorem BX.getD{l:List (List (Int×Int))}(h:BX l)(i:Nat):(l.getD i default).length<549755813888:=by
 by_cases hi:i<l.length
 ·rw [Av _ _ hi];exact h.at i hi
 ·rw [List.getD_eq_getElem?_getD,List.getElem?_eq_none (by omega)];decide
theorem AAU{a:List (Int×Int)}{i:Nat}(h:i<a.length):(BB a i,Bt a i)=a[i]:=by
 unfold BB Bt
 rw [Av _ _ h]
noncomputable def RQ(a_Node:Int)(a_Port:Int):Option (Int×Int):=
 some (a_Node,a_Port)
def A21:SC:=
 .seq
 (.ops [
 ⟨(some 1),(.box 141 (.tmp 0)),0,none⟩,
 ⟨(some 2),(.alloc 102),0,none⟩])
 (.seq
 (.ops [
 ⟨(some 3),(.alloc 102),0,none⟩])
 (.seq
 (.ops [
 ⟨(some 4),(.fieldAddr 141 (.tmp 1) 0),0,none⟩,
 ⟨(some 5),(.load 3 (.tmp 4)),3,none⟩,
 ⟨(some 6),(.fieldAddr 102 (.tmp 3) 0),0,none⟩,
 ⟨none,(.store 3 (.tmp 6) (.tmp 5)),0,none⟩])
 (.seq
 (.ops [
 ⟨(some 7),(.fieldAddr 141 (.tmp 1) 1),0,none⟩,
 ⟨(some 8),(.load 3 (.tmp 7)),3,none⟩,
 ⟨(some 9),(.fieldAddr 102 (.tmp 3) 1),0,none⟩,
 ⟨none,(.store 3 (.tmp 9) (.tmp 8)),0,none⟩])
 (.seq
 (.ops [
 ⟨(some 10),(.load 102 (.tmp 3)),102,none⟩,
 ⟨none,(.store 102 (.tmp 2) (.tmp 10)),0,none⟩])
 .ret))))
theorem rA:Try.f125.body.map (Bh lends)=some A21:=by kernel_rfl
theorem AAV:CB Try.f125 1=true:=by kernel_rfl
theorem AGc{a l:List D}{r:D×List D}(h:Bq Y.env A21 (fin AX l.length [ResultVar.cell 2 102] r) (entry a l))(ha:a.length=1):Y.call 125 a l=some r:=
 AU (Y:=Y) rfl Try.func125 (ha▸AAV) rA h
theorem Ws(a_Node:Int)(a_Port:Int){r:Int×Int}(h:RQ a_Node a_Port=some r):Y.call 125 [D.agg [D.int .i64 a_Node,D.int .i64 a_Port]] []=some (D.agg [D.int .i64 r.1,D.int .i64 r.2],[]):=by
 refine AGc ?_ rfl
 unfold A21
 unfold RQ at h
 obtain rfl:=Option.some.inj h
 simp (maxDischargeDepth:=9) only [↓AO,AB,BP,AJ,AQ,↓reduceIte,Nat.reduceEqDiff,Nat.reduceLT,Nat.reduceAdd]
noncomputable def Fj(a:List (Int×Int))(out:List (Int×Int))(i:Int):Option (((List (Int×Int))×Int)⊕((List (Int×Int)))):=
 if i<(a.length:Int)then
  ck (0≤i∧i.toNat<a.length)<|
  (RQ (BB a i.toNat) (Bt a i.toNat)).bind fun Cu=>
  ck (0≤i∧i.toNat<out.length)<|
  some (Sum.inl ((out.set i.toNat (Cu.1,Cu.2)),IntKind.i64.wrap (i+1)))
 else
  some (Sum.inr out)
noncomputable def Kz(a:List (Int×Int))(v:(List (Int×Int))×Int):Option ((List (Int×Int))):=Hy (fun v=>Fj a v.1 v.2) v
noncomputable def P6(a:List (Int×Int)):Option ((List (Int×Int))):=
 ck (0≤(a.length:Int)∧(a.length:Int)<1099511627776)<|
 (Kz a ((List.replicate a.length (0,0)),0)).bind fun FD=>
 some FD
def Wt:SC:=
 .seq
 (.seq
 (.ops [
 ⟨(some 8),(.move (.tmp 4)),3,none⟩,
 ⟨(some 9),(.move (.tmp 0)),97,none⟩,
 ⟨(some 10),(.call ⟨(.builtin .len), #[(.tmp 9)], #[97]⟩),3,none⟩,
 ⟨(some 11),(.binOp .lss 3 (.tmp 8) (.tmp 10) 3),4,none⟩])
 (.cond (.tmp 11)
 .skip
 (.exit 0)))
 (.seq
 (.block 1
 (.ops [
 ⟨(some 14),(.move (.tmp 3)),100,none⟩,
 ⟨(some 15),(.move (.tmp 4)),3,none⟩,
 ⟨(some 16),(.move (.tmp 0)),97,none⟩,
 ⟨(some 17),(.move (.tmp 4)),3,none⟩,
 ⟨(some 18),(.indexAddr 97 (.tmp 16) (.tmp 17)),0,none⟩,
 ⟨(some 19),(.load 141 (.tmp 18)),141,none⟩,
 ⟨(some 20),(.call ⟨(.value (.func 125)), #[(.tmp 19)], #[141]⟩),102,none⟩,
 ⟨(some 21),(.indexAddr 100 (.tmp 14) (.tmp 15)),0,none⟩,
 ⟨none,(.store 102 (.tmp 21) (.tmp 20)),0,none⟩]))
 (.ops [
 ⟨(some 12),(.move (.tmp 4)),3,none⟩,
 ⟨(some 13),(.binOp .add 3 (.tmp 12) (.const (.int .i64 1)) 3),3,none⟩,
 ⟨(some 4),(.assign (.tmp 13)),3,none⟩]))
def mZ:SC:= .loop Wt
def k76:SC:=
 .seq
 (.ops [
 ⟨(some 2),(.assign (.const (.slice none 0 0))),100,none⟩])
 (.seq
 (.ops [
 ⟨(some 5),(.move (.tmp 0)),97,none⟩,
 ⟨(some 6),(.call ⟨(.builtin .len), #[(.tmp 5)], #[97]⟩),3,none⟩,
 ⟨(some 7),(.makeSlice 100 (.tmp 6) (.tmp 6)),100,none⟩,
 ⟨(some 3),(.assign (.tmp 7)),100,none⟩])
 (.seq
 (.seq
 (.ops [
 ⟨(some 4),(.assign (.const (.int .i64 0))),3,none⟩])
 (.block 0
 mZ))
 (.seq
 (.ops [
 ⟨(some 22),(.move (.tmp 3)),100,none⟩,
 ⟨(some 2),(.assign (.tmp 22)),100,none⟩])
 .ret)))
theorem A22:Try.f76.body.map (Bh lends)=some k76:=by kernel_rfl
theorem AGe:CB Try.f76 1=true:=by kernel_rfl
theorem c76{a l:List D}{r:D×List D}(h:Bq Y.env k76 (fin AX l.length [ResultVar.tmp 2] r) (entry a l))(ha:a.length=1):Y.call 76 a l=some r:=
 AU (Y:=Y) rfl Try.func76 (ha▸AGe) A22 h
def Fp(a:List (Int×Int))(out:List (Int×Int))(i:Int)(s:St):Prop:=s.v 0=D.sl 141 (AY .i64 .i64 a)∧s.v 3=D.own 102 (AY .i64 .i64 out)∧s.v 4=D.int .i64 i
def JB(a:List (Int×Int))(r:(List (Int×Int)))(ex:Ex)(s:St):Prop:=ex= .exit 0∧s.v 3=D.own 102 (AY .i64 .i64 r)
theorem TB(a:List (Int×Int)){v:(List (Int×Int))×Int}{s:St}{r:(List (Int×Int))}(h:Kz a v=some r)(hM:Fp a v.1 v.2 s):Bq Y.env mZ (JB a r) s:=by
 unfold Kz at h
 refine BN (c:=Wt) (fun v=>Fj a v.1 v.2) (fun v s=>Fp a v.1 v.2 s) (JB a) ?_ h hM
 clear h hM s v r
 intro v s o hM h
 obtain⟨out,i⟩:=v
 dsimp only at h hM
 unfold Fj at h
 unfold Fp at hM
 obtain⟨m0,m1,m2⟩:=hM
 unfold Wt
 by_cases e2:i<(a.length:Int)
 ·rw [if_pos e2]at h
  obtain⟨e3,h⟩:=BF h
  obtain⟨Cu,hl4,h⟩:=Ao h
  try dsimp only at h
  have c4:=Ws (BB a i.toNat) (Bt a i.toNat) hl4
  obtain⟨e5,h⟩:=BF h
  obtain rfl:=Option.some.inj h
  simp (maxDischargeDepth:=9) only [↓AO,AB,BP,AJ,AQ,↓reduceIte,Nat.reduceEqDiff,Nat.reduceLT,Nat.reduceAdd,m0,m1,m2,e2,e3.1,e3.2,c4,e5.2,Fp,Ik]
 ·rw [if_neg e2]at h
  obtain rfl:=Option.some.inj h
  simp (maxDischargeDepth:=9) only [↓AO,AB,BP,AQ,↓reduceIte,Nat.reduceEqDiff,Nat.reduceLT,m0,m1,m2,e2,Fp,JB,KF]
theorem UT(a:List (Int×Int)){r:(List (Int×Int))}(h:P6 a=some r):Y.call 76 [D.sl 141 (AY .i64 .i64 a)] []=some (D.own 102 (AY .i64 .i64 r),[]):=by
 refine c76 ?_ rfl
 unfold k76
 unfold P6 at h
 obtain⟨e1,h⟩:=BF h
 obtain⟨FD,hl3,h⟩:=Ao h
 try dsimp only at h
 simp (maxDischargeDepth:=9) only [↓AO,AB,BP,AJ,AQ,↓reduceIte,Nat.reduceEqDiff,Nat.reduceLT,Nat.reduceLeDiff,e1.1,e1.2]
 refine Ay (TB a hl3 ?_) ?_
 ·simp (maxDischargeDepth:=9) only [AB,AJ,↓reduceIte,Nat.reduceEqDiff,Nat.reduceLT,Fp]
 ·intro ex3 s3 hX3
  unfold JB at hX3
  obtain⟨rfl,n3_0⟩:=hX3
  obtain rfl:=Option.some.inj h
  simp (maxDischargeDepth:=9) only [↓AO,AB,BP,AJ,↓reduceIte,Nat.reduceEqDiff,Nat.reduceLT,n3_0]
theorem ZO(a:List (Int×Int))(h:a.length<549755813888):P6 a=some a:=by
 have key:=Bd (fun v=>Fj a v.1 v.2) (fun i=>(a.take i++List.replicate (a.length-i) (0,0),(i:Int))) a.length a ?_ ?_
 ·unfold P6 Kz
  rw [BL (by omega)]
  simp only [List.take_zero,List.nil_append,Nat.sub_zero,Int.natCast_zero]at key
  rw [key];rfl
 ·intro i hi
  simp only [Fj,RQ,Int.toNat_natCast]
  rw [if_pos (BV hi),BL (by omega),Option.bind_some,BL (by simp;omega),AAU hi,WW a i hi (0,0),KH i (by omega)]
 ·simp only [Fj]
  rw [if_neg (Ag _)];simp
theorem ZP(a:List (Int×Int))(h0:a.length<549755813888):Y.call 76 [D.sl 141 (AY .i64 .i64 a)] []=some (D.own 102 (AY .i64 .i64 a),[]):=UT a (ZO a h0)
noncomputable def Ey(a:List (List (Int×Int)))(out:List (List (Int×Int)))(i:Int):Option (((List (List (Int×Int)))×Int)⊕((List (List (Int×Int))))):=
 if i<(a.length:Int)then
  ck (0≤i∧i.toNat<a.length)<|
  ck ((a.getD i.toNat default).length<549755813888)<|
  ck (0≤i∧i.toNat<out.length)<|
  some (Sum.inl ((out.set i.toNat (a.getD i.toNat default)),IntKind.i64.wrap (i+1)))
 else
  some (Sum.inr out)
noncomputable def Jw(a:List (List (Int×Int)))(v:(List (List (Int×Int)))×Int):Option ((List (List (Int×Int)))):=Hy (fun v=>Ey a v.1 v.2) v
noncomputable def Na(a:List (List (Int×Int))):Option ((List (List (Int×Int)))):=
 ck (0≤(a.length:Int)∧(a.length:Int)<1099511627776)<|
 (Jw a ((List.replicate a.length ([]:List (Int×Int))),0)).bind fun FD=>
 some FD
def Wu:SC:=
 .seq
 (.seq
 (.ops [
 ⟨(some 8),(.move (.tmp 4)),3,none⟩,
 ⟨(some 9),(.move (.tmp 0)),22,none⟩,
 ⟨(some 10),(.call ⟨(.builtin .len), #[(.tmp 9)], #[22]⟩),3,none⟩,
 ⟨(some 11),(.binOp .lss 3 (.tmp 8) (.tmp 10) 3),4,none⟩])
 (.cond (.tmp 11)
 .skip
 (.exit 0)))
 (.seq
 (.block 1
 (.ops [
 ⟨(some 14),(.move (.tmp 3)),29,none⟩,
 ⟨(some 15),(.move (.tmp 4)),3,none⟩,
 ⟨(some 16),(.move (.tmp 0)),22,none⟩,
 ⟨(some 17),(.move (.tmp 4)),3,none⟩,
 ⟨(some 18),(.indexAddr 22 (.tmp 16) (.tmp 17)),0,none⟩,
 ⟨(some 19),(.load 97 (.tmp 18)),97,none⟩,
 ⟨(some 20),(.call ⟨(.value (.func 76)), #[(.tmp 19)], #[97]⟩),100,none⟩,
 ⟨(some 21),(.indexAddr 29 (.tmp 14) (.tmp 15)),0,none⟩,
 ⟨none,(.store 100 (.tmp 21) (.tmp 20)),0,none⟩]))
 (.ops [
 ⟨(some 12),(.move (.tmp 4)),3,none⟩,
 ⟨(some 13),(.binOp .add 3 (.tmp 12) (.const (.int .i64 1)) 3),3,none⟩,
 ⟨(some 4),(.assign (.tmp 13)),3,none⟩]))
def ma:SC:= .loop Wu
def k36:SC:=
 .seq
 (.ops [
 ⟨(some 2),(.assign (.const (.slice none 0 0))),29,none⟩])
 (.seq
 (.ops [
 ⟨(some 5),(.move (.tmp 0)),22,none⟩,
 ⟨(some 6),(.call ⟨(.builtin .len), #[(.tmp 5)], #[22]⟩),3,none⟩,
 ⟨(some 7),(.makeSlice 29 (.tmp 6) (.tmp 6)),29,none⟩,
 ⟨(some 3),(.assign (.tmp 7)),29,none⟩])
 (.seq
 (.seq
 (.ops [
 ⟨(some 4),(.assign (.const (.int .i64 0))),3,none⟩])
 (.block 0
 ma))
 (.seq
 (.ops [
 ⟨(some 22),(.move (.tmp 3)),29,none⟩,
 ⟨(some 2),(.assign (.tmp 22)),29,none⟩])
 .ret)))
theorem A23:Try.f36.body.map (Bh lends)=some k36:=by kernel_rfl
theorem AGg:CB Try.f36 1=true:=by kernel_rfl
theorem Ni{a l:List D}{r:D×List D}(h:Bq Y.env k36 (fin AX l.length [ResultVar.tmp 2] r) (entry a l))(ha:a.length=1):Y.call 36 a l=some r:=
 AU (Y:=Y) rfl Try.func36 (ha▸AGg) A23 h
def Ez(a:List (List (Int×Int)))(out:List (List (Int×Int)))(i:Int)(s:St):Prop:=s.v 0=D.sl 97 (AP (fun x=>D.sl 141 (AY .i64 .i64 x)) a)∧s.v 3=D.own 100 (AP (fun x=>D.own 102 (AY .i64 .i64 x)) out)∧s.v 4=D.int .i64 i
def Ic(a:List (List (Int×Int)))(r:(List (List (Int×Int))))(ex:Ex)(s:St):Prop:=ex= .exit 0∧s.v 3=D.own 100 (AP (fun x=>D.own 102 (AY .i64 .i64 x)) r)
theorem Qv(a:List (List (Int×Int))){v:(List (List (Int×Int)))×Int}{s:St}{r:(List (List (Int×Int)))}(h:Jw a v=some r)(hM:Ez a v.1 v.2 s):Bq Y.env ma (Ic a r) s:=by
 unfold Jw at h
 refine BN (c:=Wu) (fun v=>Ey a v.1 v.2) (fun v s=>Ez a v.1 v.2 s) (Ic a) ?_ h hM
 clear h hM s v r
 intro v s o hM h
 obtain⟨out,i⟩:=v
 dsimp only at h hM
 unfold Ey at h
 unfold Ez at hM
 obtain⟨m0,m1,m2⟩:=hM
 unfold Wu
 by_cases e2:i<(a.length:Int)
 ·rw [if_pos e2]at h
  obtain⟨e3,h⟩:=BF h
  obtain⟨e4,h⟩:=BF h
  have c5:=ZP (a.getD i.toNat default) e4
  obtain⟨e6,h⟩:=BF h
  obtain rfl:=Option.some.inj h
  simp (maxDischargeDepth:=9) only [↓AO,AB,Ac,BP,AJ,AQ,↓reduceIte,Nat.reduceEqDiff,Nat.reduceLT,Nat.reduceAdd,m0,m1,m2,e2,e3.1,e3.2,c5,e6.2,Ez,Ik]
 ·rw [if_neg e2]at h
  obtain rfl:=Option.some.inj h
  simp (maxDischargeDepth:=9) only [↓AO,AB,Ac,AQ,↓reduceIte,Nat.reduceEqDiff,Nat.reduceLT,m0,m1,m2,e2,Ez,Ic,KF]
theorem TC(a:List (List (Int×Int))){r:(List (List (Int×Int)))}(h:Na a=some r):Y.call 36 [D.sl 97 (AP (fun x=>D.sl 141 (AY .i64 .i64 x)) a)] []=some (D.own 100 (AP (fun x=>D.own 102 (AY .i64 .i64 x)) r),[]):=by
 refine Ni ?_ rfl
 unfold k36
 unfold Na at h
 obtain⟨e1,h⟩:=BF h
 obtain⟨FD,hl3,h⟩:=Ao h
 try dsimp only at h
 simp (maxDischargeDepth:=9) only [↓AO,AB,Ac,AJ,AQ,↓reduceIte,Nat.reduceEqDiff,Nat.reduceLT,Nat.reduceLeDiff,e1.1,e1.2]
 refine Ay (Qv a hl3 ?_) ?_
 ·simp (maxDischargeDepth:=9) only [AB,AJ,↓reduceIte,Nat.reduceEqDiff,Nat.reduceLT,Ez]<;>(repeat' apply And.intro)<;>first | rfl | exact⟨_,rfl⟩ | exact⟨_,_,rfl⟩ | simp [AP,Bu]
 ·intro ex3 s3 hX3
  unfold Ic at hX3
  obtain⟨rfl,n3_0⟩:=hX3
  obtain rfl:=Option.some.inj h
  simp (maxDischargeDepth:=9) only [↓AO,AB,Ac,BP,AJ,↓reduceIte,Nat.reduceEqDiff,Nat.reduceLT,n3_0]
theorem Wv(a:List (List (Int×Int)))(h:BX a):Na a=some a:=by
 have h1:=h.1
 have key:=Bd (fun v=>Ey a v.1 v.2) (fun i=>(a.take i++List.replicate (a.length-i) [],(i:Int))) a.length a ?_ ?_
 ·unfold Na Jw
  rw [BL (by omega)]
  simp only [List.take_zero,List.nil_append,Nat.sub_zero,Int.natCast_zero]at key
  rw [key];rfl
 ·intro i hi
  simp only [Ey]
  rw [if_pos (BV hi),BL (Ew hi),BL (by rw [Ia _ _ hi];exact h.at i hi),BL (Ew (by simp;omega)),Ia _ _ hi,Int.toNat_natCast,WW a i hi [],KH i (by omega)]
 ·simp only [Ey]
  rw [if_neg (Ag _)];simp
theorem Ww(a:List (List (Int×Int)))(h0:BX a):Y.call 36 [D.sl 97 (AP (fun x=>D.sl 141 (AY .i64 .i64 x)) a)] []=some (D.own 100 (AP (fun x=>D.own 102 (AY .i64 .i64 x)) a),[]):=TC a (Wv a h0)
noncomputable def L6(Ad:List (List (Int×Int)))(Au:List Int)(Ab:List Int):Option ((List (List (Int×Int)))×(List Int)×(List Int)):=
 ck (BX Ad)<|
 ck (Au.length<1099511627776)<|
 ck (Ab.length<1099511627776)<|
 some (Ad,Au,Ab)
def k10:SC:=
 .seq
 (.ops [
 ⟨(some 1),(.box 25 (.tmp 0)),0,none⟩,
 ⟨(some 2),(.alloc 31),0,none⟩])
 (.seq
 (.ops [
 ⟨(some 3),(.alloc 31),0,none⟩])
 (.seq
 (.ops [
 ⟨(some 4),(.fieldAddr 25 (.tmp 1) 0),0,none⟩,
 ⟨(some 5),(.load 22 (.tmp 4)),22,none⟩,
 ⟨(some 6),(.call ⟨(.value (.func 36)), #[(.tmp 5)], #[22]⟩),29,none⟩,
 ⟨(some 7),(.fieldAddr 31 (.tmp 3) 0),0,none⟩,
 ⟨none,(.store 29 (.tmp 7) (.tmp 6)),0,none⟩])
 (.seq
 (.ops [
 ⟨(some 8),(.fieldAddr 25 (.tmp 1) 1),0,none⟩,
 ⟨(some 9),(.load 23 (.tmp 8)),23,none⟩,
 ⟨(some 10),(.call ⟨(.value (.func 11)), #[(.tmp 9)], #[23]⟩),23,none⟩,
 ⟨(some 11),(.fieldAddr 31 (.tmp 3) 1),0,none⟩,
 ⟨none,(.store 23 (.tmp 11) (.tmp 10)),0,none⟩])
 (.seq
 (.ops [
 ⟨(some 12),(.fieldAddr 25 (.tmp 1) 2),0,none⟩,
 ⟨(some 13),(.load 23 (.tmp 12)),23,none⟩,
 ⟨(some 14),(.call ⟨(.value (.func 11)), #[(.tmp 13)], #[23]⟩),23,none⟩,
 ⟨(some 15),(.fieldAddr 31 (.tmp 3) 2),0,none⟩,
 ⟨none,(.store 23 (.tmp 15) (.tmp 14)),0,none⟩])
 (.seq
 (.ops [
 ⟨(some 16),(.load 31 (.tmp 3)),31,none⟩,
 ⟨none,(.store 31 (.tmp 2) (.tmp 16)),0,none⟩])
 .ret)))))
theorem A24:Try.f10.body.map (Bh lends)=some k10:=by kernel_rfl
theorem AGi:CB Try.f10 1=true:=by kernel_rfl
theorem JC{a l:List D}{r:D×List D}(h:Bq Y.env k10 (fin AX l.length [ResultVar.cell 2 31] r) (entry a l))(ha:a.length=1):Y.call 10 a l=some r:=
 AU (Y:=Y) rfl Try.func10 (ha▸AGi) A24 h
theorem Pv(Ad:List (List (Int×Int)))(Au:List Int)(Ab:List Int){r:(List (List (Int×Int)))×(List Int)×(List Int)}(h:L6 Ad Au Ab=some r):Y.call 10 [D.agg [D.sl 97 (AP (fun x=>D.sl 141 (AY .i64 .i64 x)) Ad),D.sl 3 (AP (D.int .i64) Au),D.sl 3 (AP (D.int .i64) Ab)]] []=some (D.agg [D.own 100 (AP (fun x=>D.own 102 (AY .i64 .i64 x)) r.1),D.own 3 (AP (D.int .i64) r.2.1),D.own 3 (AP (D.int .i64) r.2.2)],[]):=by
 refine JC ?_ rfl
 unfold k10
 unfold L6 at h
 obtain⟨e1,h⟩:=BF h
 have c2:=Ww Ad e1
 obtain⟨e3,h⟩:=BF h
 have c4:=Qa Au e3
 obtain⟨e5,h⟩:=BF h
 have c6:=Qa Ab e5
 obtain rfl:=Option.some.inj h
 simp (maxDischargeDepth:=9) only [↓AO,AB,Ac,BP,AJ,AQ,↓reduceIte,Nat.reduceEqDiff,Nat.reduceLT,Nat.reduceAdd,c2,c4,c6]
theorem TD(a:List (List (Int×Int)))(b c:List Int)(h:BX a)(hb:b.length<1099511627776)(hc:c.length<1099511627776):L6 a b c=some (a,b,c):=by
 unfold L6
 rw [BL h,BL hb,BL hc]
theorem BJ(Ad:List (List (Int×Int)))(Au:List Int)(Ab:List Int)(h0:BX Ad)(h1:Au.length<1099511627776)(h2:Ab.length<1099511627776):Y.call 10 [D.agg [D.sl 97 (AP (fun x=>D.sl 141 (AY .i64 .i64 x)) Ad),D.sl 3 (AP (D.int .i64) Au),D.sl 3 (AP (D.int .i64) Ab)]] []=some (D.agg [D.own 100 (AP (fun x=>D.own 102 (AY .i64 .i64 x)) Ad),D.own 3 (AP (D.int .i64) Au),D.own 3 (AP (D.int .i64) Ab)],[]):=Pv Ad Au Ab (TD Ad Au Ab h0 h1 h2)
noncomputable def P7(a_Node:Int)(a_Port:Int)(b_Node:Int)(b_Port:Int):Option (Bool):=
 if a_Node=b_Node then
  if a_Port=b_Port then
   some true
  else
   some false
 else
  some false
def A25:SC:=
 .seq
 (.ops [
 ⟨(some 2),(.box 102 (.tmp 0)),0,none⟩,
 ⟨(some 3),(.box 102 (.tmp 1)),0,none⟩,
 ⟨(some 4),(.assign (.const (.bool false))),4,none⟩])
 (.seq
 (.seq
 (.ops [
 ⟨(some 5),(.fieldAddr 102 (.tmp 2) 0),0,none⟩,
 ⟨(some 6),(.load 3 (.tmp 5)),3,none⟩,
 ⟨(some 7),(.fieldAddr 102 (.tmp 3) 0),0,none⟩,
 ⟨(some 8),(.load 3 (.tmp 7)),3,none⟩,
 ⟨(some 9),(.binOp .neq 3 (.tmp 6) (.tmp 8) 3),4,none⟩])
 (.cond (.tmp 9)
 (.seq
 (.ops [
 ⟨(some 4),(.assign (.const (.bool false))),4,none⟩])
 .ret)
 .skip))
 (.seq
 (.seq
 (.ops [
 ⟨(some 10),(.fieldAddr 102 (.tmp 2) 1),0,none⟩,
 ⟨(some 11),(.load 3 (.tmp 10)),3,none⟩,
 ⟨(some 12),(.fieldAddr 102 (.tmp 3) 1),0,none⟩,
 ⟨(some 13),(.load 3 (.tmp 12)),3,none⟩,
 ⟨(some 14),(.binOp .neq 3 (.tmp 11) (.tmp 13) 3),4,none⟩])
 (.cond (.tmp 14)
 (.seq
 (.ops [
 ⟨(some 4),(.assign (.const (.bool false))),4,none⟩])
 .ret)
 .skip))
 (.seq
 (.ops [
 ⟨(some 4),(.assign (.const (.bool true))),4,none⟩])
 .ret)))
theorem rC:Try.f134.body.map (Bh lends)=some A25:=by kernel_rfl
theorem AAW:CB Try.f134 2=true:=by kernel_rfl
theorem AGj{a l:List D}{r:D×List D}(h:Bq Y.env A25 (fin AX l.length [ResultVar.tmp 4] r) (entry a l))(ha:a.length=2):Y.call 134 a l=some r:=
 AU (Y:=Y) rfl Try.func134 (ha▸AAW) rC h
theorem Wx(a_Node:Int)(a_Port:Int)(b_Node:Int)(b_Port:Int){r:Bool}(h:P7 a_Node a_Port b_Node b_Port=some r):Y.call 134 [D.agg [D.int .i64 a_Node,D.int .i64 a_Port],D.agg [D.int .i64 b_Node,D.int .i64 b_Port]] []=some (D.bool r,[]):=by
 refine AGj ?_ rfl
 unfold A25
 unfold P7 at h
 by_cases e1:a_Node=b_Node
 ·rw [if_pos e1]at h
  by_cases e2:a_Port=b_Port
  ·rw [if_pos e2]at h
   obtain rfl:=Option.some.inj h
   simp (maxDischargeDepth:=9) only [↓AO,AB,AJ,AQ,↓reduceIte,Nat.reduceEqDiff,Nat.reduceLT,Nat.reduceAdd,decide_eq_true e1,decide_eq_true e2]
  ·rw [if_neg e2]at h
   obtain rfl:=Option.some.inj h
   simp (maxDischargeDepth:=9) only [↓AO,AB,AJ,AQ,↓reduceIte,Nat.reduceEqDiff,Nat.reduceLT,Nat.reduceAdd,decide_eq_true e1,e2]
 ·rw [if_neg e1]at h
  obtain rfl:=Option.some.inj h
  simp (maxDischargeDepth:=9) only [↓AO,AB,AJ,AQ,↓reduceIte,Nat.reduceEqDiff,Nat.reduceLT,Nat.reduceAdd,e1]
noncomputable def Fq(a:List (Int×Int))(b:List (Int×Int))(i:Int):Option ((Int)⊕(Unit⊕Unit)):=
 if i<(a.length:Int)then
  ck (0≤i∧i.toNat<a.length)<|
  ck (0≤i∧i.toNat<b.length)<|
  (P7 (BB a i.toNat) (Bt a i.toNat) (BB b i.toNat) (Bt b i.toNat)).bind fun Ej=>
  if Ej=true then
   some (Sum.inl (IntKind.i64.wrap (i+1)))
  else
   some (Sum.inr (Sum.inl ()))
 else
  some (Sum.inr (Sum.inr ()))
noncomputable def L8(a:List (Int×Int))(b:List (Int×Int))(v:Int):Option (Unit⊕Unit):=Hy (fun v=>Fq a b v) v
noncomputable def P8(a:List (Int×Int))(b:List (Int×Int)):Option (Bool):=
 if(a.length:Int)=(b.length:Int)then
  (L8 a b 0).bind fun FD=>
  match FD with
  | .inl q3_=>
   some false
  | .inr q3_=>
   some true
 else
  some false
def Wy:SC:=
 .seq
 (.seq
 (.ops [
 ⟨(some 11),(.move (.tmp 5)),3,none⟩,
 ⟨(some 12),(.move (.tmp 0)),100,none⟩,
 ⟨(some 13),(.call ⟨(.builtin .len), #[(.tmp 12)], #[100]⟩),3,none⟩,
 ⟨(some 14),(.binOp .lss 3 (.tmp 11) (.tmp 13) 3),4,none⟩])
 (.cond (.tmp 14)
 .skip
 (.exit 0)))
 (.seq
 (.block 1
 (.seq
 (.draws [
 (⟨[17,0,0],[17,18,19,20,21,22,23,24,25,26],[17]⟩,⟨(some 17),(.move (.tmp 0)),100,none⟩),
 (⟨[18,5,5],[17,18,19,20,21,22,23,24,25,26],[18]⟩,⟨(some 18),(.move (.tmp 5)),3,none⟩),
 (⟨[19,17,18,0,5],[17,18,19,20,21,22,23,24,25,26],[19]⟩,⟨(some 19),(.indexAddr 100 (.tmp 17) (.tmp 18)),0,none⟩),
 (⟨[20,19,0],[17,18,19,20,21,22,23,24,25,26],[20]⟩,⟨(some 20),(.load 102 (.tmp 19)),102,none⟩),
 (⟨[21,1,1],[17,18,19,20,21,22,23,24,25,26],[21]⟩,⟨(some 21),(.move (.tmp 1)),100,none⟩),
 (⟨[22,5,5],[17,18,19,20,21,22,23,24,25,26],[22]⟩,⟨(some 22),(.move (.tmp 5)),3,none⟩),
 (⟨[23,21,22,1,5],[17,18,19,20,21,22,23,24,25,26],[23]⟩,⟨(some 23),(.indexAddr 100 (.tmp 21) (.tmp 22)),0,none⟩),
 (⟨[24,23,1],[17,18,19,20,21,22,23,24,25,26],[24]⟩,⟨(some 24),(.load 102 (.tmp 23)),102,none⟩),
 (⟨[25,20,24,0,1],[17,18,19,20,21,22,23,24,25,26],[25]⟩,⟨(some 25),(.call ⟨(.value (.func 134)), #[(.tmp 20),(.tmp 24)], #[102,102]⟩),4,none⟩),
 (⟨[26,25,25],[17,18,19,20,21,22,23,24,25,26],[26]⟩,⟨(some 26),(.unOp .not 4 (.tmp 25)),4,none⟩)])
 (.cond (.tmp 26)
 (.seq
 (.ops [
 ⟨(some 4),(.assign (.const (.bool false))),4,none⟩])
 .ret)
 .skip)))
 (.ops [
 ⟨(some 15),(.move (.tmp 5)),3,none⟩,
 ⟨(some 16),(.binOp .add 3 (.tmp 15) (.const (.int .i64 1)) 3),3,none⟩,
 ⟨(some 5),(.assign (.tmp 16)),3,none⟩]))
def mf:SC:= .loop Wy
def k87:SC:=
 .seq
 (.ops [
 ⟨(some 4),(.assign (.const (.bool false))),4,none⟩])
 (.seq
 (.seq
 (.ops [
 ⟨(some 6),(.move (.tmp 0)),100,none⟩,
 ⟨(some 7),(.call ⟨(.builtin .len), #[(.tmp 6)], #[100]⟩),3,none⟩,
 ⟨(some 8),(.move (.tmp 1)),100,none⟩,
 ⟨(some 9),(.call ⟨(.builtin .len), #[(.tmp 8)], #[100]⟩),3,none⟩,
 ⟨(some 10),(.binOp .neq 3 (.tmp 7) (.tmp 9) 3),4,none⟩])
 (.cond (.tmp 10)
 (.seq
 (.ops [
 ⟨(some 4),(.assign (.const (.bool false))),4,none⟩])
 .ret)
 .skip))
 (.seq
 (.seq
 (.ops [
 ⟨(some 5),(.assign (.const (.int .i64 0))),3,none⟩])
 (.block 0
 mf))
 (.seq
 (.ops [
 ⟨(some 4),(.assign (.const (.bool true))),4,none⟩])
 .ret)))
theorem A26:Try.f87.body.map (Bh lends)=some k87:=by kernel_rfl
theorem AGl:CB Try.f87 2=true:=by kernel_rfl
theorem c87{a l:List D}{r:D×List D}(h:Bq Y.env k87 (fin AX l.length [ResultVar.tmp 4] r) (entry a l))(ha:a.length=2):Y.call 87 a l=some r:=
 AU (Y:=Y) rfl Try.func87 (ha▸AGl) A26 h
def EZ(a:List (Int×Int))(b:List (Int×Int))(i:Int)(s:St):Prop:=s.v 0=D.sl 102 (AY .i64 .i64 a)∧s.v 1=D.sl 102 (AY .i64 .i64 b)∧s.v 5=D.int .i64 i
def Fv(a:List (Int×Int))(b:List (Int×Int))(r:Unit⊕Unit)(ex:Ex)(s:St):Prop:=match r with
 | .inl q=>ex= .ret∧s.v 4=D.bool false
 | .inr q=>ex= .exit 0
theorem TE(a:List (Int×Int))(b:List (Int×Int)){v:Int}{s:St}{r:Unit⊕Unit}(h:L8 a b v=some r)(hM:EZ a b v s):Bq Y.env mf (Fv a b r) s:=by
 unfold L8 at h
 refine BN (c:=Wy) (fun v=>Fq a b v) (fun v s=>EZ a b v s) (Fv a b) ?_ h hM
 clear h hM s v r
 intro i s o hM h
 unfold Fq at h
 unfold EZ at hM
 obtain⟨m0,m1,m2⟩:=hM
 unfold Wy
 by_cases e2:i<(a.length:Int)
 ·rw [if_pos e2]at h
  obtain⟨e3,h⟩:=BF h
  obtain⟨e4,h⟩:=BF h
  obtain⟨Ej,hl5,h⟩:=Ao h
  try dsimp only at h
  have c5:=Wx (BB a i.toNat) (Bt a i.toNat) (BB b i.toNat) (Bt b i.toNat) hl5
  by_cases e6:Ej=true
  ·rw [if_pos e6]at h
   obtain rfl:=Option.some.inj h
   simp (maxDischargeDepth:=9) only [↓AO,AB,BP,AJ,AQ,↓reduceIte,Nat.reduceEqDiff,Nat.reduceLT,Nat.reduceAdd,m0,m1,m2,e2,e3.1,e3.2,e4.2,c5,e6,EZ,Ik]
  ·rw [if_neg e6]at h
   have e6f:Ej=false:=Bool.eq_false_iff.mpr e6
   obtain rfl:=Option.some.inj h
   simp (maxDischargeDepth:=9) only [↓AO,AB,BP,AJ,AQ,↓reduceIte,Nat.reduceEqDiff,Nat.reduceLT,Nat.reduceAdd,m0,m1,m2,e2,e3.1,e3.2,e4.2,c5,e6f,EZ,Fv,Qp]
 ·rw [if_neg e2]at h
  obtain rfl:=Option.some.inj h
  simp (maxDischargeDepth:=9) only [↓AO,AB,BP,AQ,↓reduceIte,Nat.reduceEqDiff,Nat.reduceLT,m0,m2,e2,EZ,Fv,KF]
theorem UU(a:List (Int×Int))(b:List (Int×Int)){r:Bool}(h:P8 a b=some r):Y.call 87 [D.sl 102 (AY .i64 .i64 a),D.sl 102 (AY .i64 .i64 b)] []=some (D.bool r,[]):=by
 refine c87 ?_ rfl
 unfold k87
 unfold P8 at h
 by_cases e1:(a.length:Int)=(b.length:Int)
 ·rw [if_pos e1]at h
  obtain⟨FD,hl3,h⟩:=Ao h
  try dsimp only at h
  simp (maxDischargeDepth:=9) only [↓AO,AB,BP,AJ,AQ,↓reduceIte,Nat.reduceEqDiff,Nat.reduceLT,decide_eq_true e1]
  refine Ay (TE a b hl3 ?_) ?_
  ·simp (maxDischargeDepth:=9) only [AB,AJ,↓reduceIte,Nat.reduceEqDiff,Nat.reduceLT,EZ]
  ·intro ex3 s3 hX3
   rcases FD with q3_ | q3_
   ·unfold Fv at hX3
    dsimp only at hX3 h
    obtain⟨rfl,n3_0⟩:=hX3
    obtain rfl:=Option.some.inj h
    simp (maxDischargeDepth:=9) only [↓AO,AB,AJ,↓reduceIte,n3_0]
   ·unfold Fv at hX3
    dsimp only at hX3 h
    obtain rfl:=hX3
    obtain rfl:=Option.some.inj h
    simp (maxDischargeDepth:=9) only [↓AO,AB,AJ,AQ,↓reduceIte,Nat.reduceEqDiff,Nat.reduceLT]
 ·rw [if_neg e1]at h
  obtain rfl:=Option.some.inj h
  simp (maxDischargeDepth:=9) only [↓AO,AB,BP,AJ,AQ,↓reduceIte,Nat.reduceEqDiff,Nat.reduceLT,e1]
theorem cZ(a b c d:Int):P7 a b c d=some (decide ((a,b)=(c,d))):=by
 unfold P7
 by_cases h1:a=c<;>by_cases h2:b=d<;>simp [h1,h2]
theorem ZQ(a b:List (Int×Int))(ha:a.length<549755813888):P8 a b=some (decide (a=b)):=by
 unfold P8 L8
 by_cases hl:a.length=b.length
 ·rw [if_pos (by omega)]
  have key:=IZ (fun v=>Fq a b v) (fun i=>(i:Int)) a.length (fun i=>decide (a.getD i default=b.getD i default)) (.inl ()) (.inr ()) ?_ ?_
  ·simp only [Int.natCast_zero]at key
   rw [key,Sq a b hl]
   by_cases he:a=b<;>simp [he]
  ·intro i hi
   simp only [Fq,Int.toNat_natCast]
   rw [if_pos (BV hi),BL (by omega),BL (by omega),cZ,Option.bind_some,KH i (by omega)]
   rfl
  ·simp only [Fq]
   rw [if_neg (Ag _)]
 ·rw [if_neg (by omega)]
  have: ¬a=b:=fun e=>hl (by rw [e])
  simp [this]
theorem ZR(a:List (Int×Int))(b:List (Int×Int))(h0:a.length<549755813888):Y.call 87 [D.sl 102 (AY .i64 .i64 a),D.sl 102 (AY .i64 .i64 b)] []=some (D.bool (decide (a=b)),[]):=UU a b (ZQ a b h0)
noncomputable def F3(a:List (List (Int×Int)))(b:List (List (Int×Int)))(i:Int):Option ((Int)⊕(Unit⊕Unit)):=
 if i<(a.length:Int)then
  ck (0≤i∧i.toNat<a.length)<|
  ck (0≤i∧i.toNat<b.length)<|
  ck ((a.getD i.toNat default).length<549755813888)<|
  if(decide ((a.getD i.toNat default)=(b.getD i.toNat default)))=true then
   some (Sum.inl (IntKind.i64.wrap (i+1)))
  else
   some (Sum.inr (Sum.inl ()))
 else
  some (Sum.inr (Sum.inr ()))
noncomputable def Jy(a:List (List (Int×Int)))(b:List (List (Int×Int)))(v:Int):Option (Unit⊕Unit):=Hy (fun v=>F3 a b v) v
noncomputable def Nb(a:List (List (Int×Int)))(b:List (List (Int×Int))):Option (Bool):=
 if(a.length:Int)=(b.length:Int)then
  (Jy a b 0).bind fun FD=>
  match FD with
  | .inl q3_=>
   some false
  | .inr q3_=>
   some true
 else
  some false
def Wz:SC:=
 .seq
 (.seq
 (.ops [
 ⟨(some 11),(.move (.tmp 5)),3,none⟩,
 ⟨(some 12),(.move (.tmp 0)),29,none⟩,
 ⟨(some 13),(.call ⟨(.builtin .len), #[(.tmp 12)], #[29]⟩),3,none⟩,
 ⟨(some 14),(.binOp .lss 3 (.tmp 11) (.tmp 13) 3),4,none⟩])
 (.cond (.tmp 14)
 .skip
 (.exit 0)))
 (.seq
 (.block 1
 (.seq
 (.draws [
 (⟨[17,0,0],[17,18,19,20,21,22,23,24,25,26],[17]⟩,⟨(some 17),(.move (.tmp 0)),29,none⟩),
 (⟨[18,5,5],[17,18,19,20,21,22,23,24,25,26],[18]⟩,⟨(some 18),(.move (.tmp 5)),3,none⟩),
 (⟨[19,17,18,0,5],[17,18,19,20,21,22,23,24,25,26],[19]⟩,⟨(some 19),(.indexAddr 29 (.tmp 17) (.tmp 18)),0,none⟩),
 (⟨[20,19,0],[17,18,19,20,21,22,23,24,25,26],[20]⟩,⟨(some 20),(.load 100 (.tmp 19)),100,none⟩),
 (⟨[21,1,1],[17,18,19,20,21,22,23,24,25,26],[21]⟩,⟨(some 21),(.move (.tmp 1)),29,none⟩),
 (⟨[22,5,5],[17,18,19,20,21,22,23,24,25,26],[22]⟩,⟨(some 22),(.move (.tmp 5)),3,none⟩),
 (⟨[23,21,22,1,5],[17,18,19,20,21,22,23,24,25,26],[23]⟩,⟨(some 23),(.indexAddr 29 (.tmp 21) (.tmp 22)),0,none⟩),
 (⟨[24,23,1],[17,18,19,20,21,22,23,24,25,26],[24]⟩,⟨(some 24),(.load 100 (.tmp 23)),100,none⟩),
 (⟨[25,20,24,0,1],[17,18,19,20,21,22,23,24,25,26],[25]⟩,⟨(some 25),(.call ⟨(.value (.func 87)), #[(.tmp 20),(.tmp 24)], #[100,100]⟩),4,none⟩),
 (⟨[26,25,25],[17,18,19,20,21,22,23,24,25,26],[26]⟩,⟨(some 26),(.unOp .not 4 (.tmp 25)),4,none⟩)])
 (.cond (.tmp 26)
 (.seq
 (.ops [
 ⟨(some 4),(.assign (.const (.bool false))),4,none⟩])
 .ret)
 .skip)))
 (.ops [
 ⟨(some 15),(.move (.tmp 5)),3,none⟩,
 ⟨(some 16),(.binOp .add 3 (.tmp 15) (.const (.int .i64 1)) 3),3,none⟩,
 ⟨(some 5),(.assign (.tmp 16)),3,none⟩]))
def mg:SC:= .loop Wz
def k41:SC:=
 .seq
 (.ops [
 ⟨(some 4),(.assign (.const (.bool false))),4,none⟩])
 (.seq
 (.seq
 (.ops [
 ⟨(some 6),(.move (.tmp 0)),29,none⟩,
 ⟨(some 7),(.call ⟨(.builtin .len), #[(.tmp 6)], #[29]⟩),3,none⟩,
 ⟨(some 8),(.move (.tmp 1)),29,none⟩,
 ⟨(some 9),(.call ⟨(.builtin .len), #[(.tmp 8)], #[29]⟩),3,none⟩,
 ⟨(some 10),(.binOp .neq 3 (.tmp 7) (.tmp 9) 3),4,none⟩])
 (.cond (.tmp 10)
 (.seq
 (.ops [
 ⟨(some 4),(.assign (.const (.bool false))),4,none⟩])
 .ret)
 .skip))
 (.seq
 (.seq
 (.ops [
 ⟨(some 5),(.assign (.const (.int .i64 0))),3,none⟩])
 (.block 0
 mg))
 (.seq
 (.ops [
 ⟨(some 4),(.assign (.const (.bool true))),4,none⟩])
 .ret)))
theorem A27:Try.f41.body.map (Bh lends)=some k41:=by kernel_rfl
theorem AGn:CB Try.f41 2=true:=by kernel_rfl
theorem Pw{a l:List D}{r:D×List D}(h:Bq Y.env k41 (fin AX l.length [ResultVar.tmp 4] r) (entry a l))(ha:a.length=2):Y.call 41 a l=some r:=
 AU (Y:=Y) rfl Try.func41 (ha▸AGn) A27 h
def Dx(a:List (List (Int×Int)))(b:List (List (Int×Int)))(i:Int)(s:St):Prop:=s.v 0=D.sl 100 (AP (fun x=>D.sl 102 (AY .i64 .i64 x)) a)∧s.v 1=D.sl 100 (AP (fun x=>D.sl 102 (AY .i64 .i64 x)) b)∧s.v 5=D.int .i64 i
def F4(a:List (List (Int×Int)))(b:List (List (Int×Int)))(r:Unit⊕Unit)(ex:Ex)(s:St):Prop:=match r with
 | .inl q=>ex= .ret∧s.v 4=D.bool false
 | .inr q=>ex= .exit 0
theorem Qw(a:List (List (Int×Int)))(b:List (List (Int×Int))){v:Int}{s:St}{r:Unit⊕Unit}(h:Jy a b v=some r)(hM:Dx a b v s):Bq Y.env mg (F4 a b r) s:=by
 unfold Jy at h
 refine BN (c:=Wz) (fun v=>F3 a b v) (fun v s=>Dx a b v s) (F4 a b) ?_ h hM
 clear h hM s v r
 intro i s o hM h
 unfold F3 at h
 unfold Dx at hM
 obtain⟨m0,m1,m2⟩:=hM
 unfold Wz
 by_cases e2:i<(a.length:Int)
 ·rw [if_pos e2]at h
  obtain⟨e3,h⟩:=BF h
  obtain⟨e4,h⟩:=BF h
  obtain⟨e5,h⟩:=BF h
  have c6:=ZR (a.getD i.toNat default) (b.getD i.toNat default) e5
  by_cases e7:(decide ((a.getD i.toNat default)=(b.getD i.toNat default)))=true
  ·rw [if_pos e7]at h
   obtain rfl:=Option.some.inj h
   simp (maxDischargeDepth:=9) only [↓AO,AB,Ac,BP,AJ,AQ,↓reduceIte,Nat.reduceEqDiff,Nat.reduceLT,Nat.reduceAdd,m0,m1,m2,e2,e3.1,e3.2,e4.2,c6,e7,Dx,Ik]
  ·rw [if_neg e7]at h
   have e7f:(decide ((a.getD i.toNat default)=(b.getD i.toNat default)))=false:=Bool.eq_false_iff.mpr e7
   obtain rfl:=Option.some.inj h
   simp (maxDischargeDepth:=9) only [↓AO,AB,Ac,BP,AJ,AQ,↓reduceIte,Nat.reduceEqDiff,Nat.reduceLT,Nat.reduceAdd,m0,m1,m2,e2,e3.1,e3.2,e4.2,c6,e7f,Dx,F4,Qp]
 ·rw [if_neg e2]at h
  obtain rfl:=Option.some.inj h
  simp (maxDischargeDepth:=9) only [↓AO,AB,Ac,AQ,↓reduceIte,Nat.reduceEqDiff,Nat.reduceLT,m0,m2,e2,Dx,F4,KF]
theorem TF(a:List (List (Int×Int)))(b:List (List (Int×Int))){r:Bool}(h:Nb a b=some r):Y.call 41 [D.sl 100 (AP (fun x=>D.sl 102 (AY .i64 .i64 x)) a),D.sl 100 (AP (fun x=>D.sl 102 (AY .i64 .i64 x)) b)] []=some (D.bool r,[]):=by
 refine Pw ?_ rfl
 unfold k41
 unfold Nb at h
 by_cases e1:(a.length:Int)=(b.length:Int)
 ·rw [if_pos e1]at h
  obtain⟨FD,hl3,h⟩:=Ao h
  try dsimp only at h
  simp (maxDischargeDepth:=9) only [↓AO,AB,Ac,AJ,AQ,↓reduceIte,Nat.reduceEqDiff,Nat.reduceLT,decide_eq_true e1]
  refine Ay (Qw a b hl3 ?_) ?_
  ·simp (maxDischargeDepth:=9) only [AB,AJ,↓reduceIte,Nat.reduceEqDiff,Nat.reduceLT,Dx]
  ·intro ex3 s3 hX3
   rcases FD with q3_ | q3_
   ·unfold F4 at hX3
    dsimp only at hX3 h
    obtain⟨rfl,n3_0⟩:=hX3
    obtain rfl:=Option.some.inj h
    simp (maxDischargeDepth:=9) only [↓AO,AB,AJ,↓reduceIte,n3_0]
   ·unfold F4 at hX3
    dsimp only at hX3 h
    obtain rfl:=hX3
    obtain rfl:=Option.some.inj h
    simp (maxDischargeDepth:=9) only [↓AO,AB,AJ,AQ,↓reduceIte,Nat.reduceEqDiff,Nat.reduceLT]
 ·rw [if_neg e1]at h
  obtain rfl:=Option.some.inj h
  simp (maxDischargeDepth:=9) only [↓AO,AB,Ac,AJ,AQ,↓reduceIte,Nat.reduceEqDiff,Nat.reduceLT,e1]
theorem X0(a b:List (List (Int×Int)))(ha:BX a):Nb a b=some (decide (a=b)):=by
 have h1:=ha.1
 unfold Nb Jy
 by_cases hl:a.length=b.length
 ·rw [if_pos (by omega)]
  have key:=IZ (fun v=>F3 a b v) (fun i=>(i:Int)) a.length (fun i=>decide (a.getD i default=b.getD i default)) (.inl ()) (.inr ()) ?_ ?_
  ·simp only [Int.natCast_zero]at key
   rw [key,Sq a b hl]
   by_cases he:a=b<;>simp [he]
  ·intro i hi
   simp only [F3]
   rw [if_pos (BV hi),BL (Ew hi),BL (Ew (by omega)),BL (by rw [Ia _ _ hi];exact ha.at i hi),Int.toNat_natCast,KH i (by omega)]<;>simp only [decide_eq_true_eq]
  ·simp only [F3]
   rw [if_neg (Ag _)]
 ·rw [if_neg (by omega)]
  have: ¬a=b:=fun e=>hl (by rw [e])
  simp [this]
theorem X3(a:List (List (Int×Int)))(b:List (List (Int×Int)))(h0:BX a):Y.call 41 [D.sl 100 (AP (fun x=>D.sl 102 (AY .i64 .i64 x)) a),D.sl 100 (AP (fun x=>D.sl 102 (AY .i64 .i64 x)) b)] []=some (D.bool (decide (a=b)),[]):=TF a b (X0 a b h0)
noncomputable def L9(Ad:List (List (Int×Int)))(Au:List Int)(Ab:List Int)(Jq:List (List (Int×Int)))(MW:List Int)(FW:List Int):Option (Bool):=
 ck (BX Ad)<|
 if(decide (Ad=Jq))=true then
  ck (Au.length<1099511627776)<|
  if(decide (Au=MW))=true then
   ck (Ab.length<1099511627776)<|
   if(decide (Ab=FW))=true then
    some true
   else
    some false
  else
   some false
 else
  some false
def k13:SC:=
 .seq
 (.ops [
 ⟨(some 2),(.box 31 (.tmp 0)),0,none⟩,
 ⟨(some 3),(.box 31 (.tmp 1)),0,none⟩,
 ⟨(some 4),(.assign (.const (.bool false))),4,none⟩])
 (.seq
 (.seq
 (.ops [
 ⟨(some 5),(.fieldAddr 31 (.tmp 2) 0),0,none⟩,
 ⟨(some 6),(.load 29 (.tmp 5)),29,none⟩,
 ⟨(some 7),(.fieldAddr 31 (.tmp 3) 0),0,none⟩,
 ⟨(some 8),(.load 29 (.tmp 7)),29,none⟩,
 ⟨(some 9),(.call ⟨(.value (.func 41)), #[(.tmp 6),(.tmp 8)], #[29,29]⟩),4,none⟩,
 ⟨(some 10),(.unOp .not 4 (.tmp 9)),4,none⟩])
 (.cond (.tmp 10)
 (.seq
 (.ops [
 ⟨(some 4),(.assign (.const (.bool false))),4,none⟩])
 .ret)
 .skip))
 (.seq
 (.seq
 (.ops [
 ⟨(some 11),(.fieldAddr 31 (.tmp 2) 1),0,none⟩,
 ⟨(some 12),(.load 23 (.tmp 11)),23,none⟩,
 ⟨(some 13),(.fieldAddr 31 (.tmp 3) 1),0,none⟩,
 ⟨(some 14),(.load 23 (.tmp 13)),23,none⟩,
 ⟨(some 15),(.call ⟨(.value (.func 14)), #[(.tmp 12),(.tmp 14)], #[23,23]⟩),4,none⟩,
 ⟨(some 16),(.unOp .not 4 (.tmp 15)),4,none⟩])
 (.cond (.tmp 16)
 (.seq
 (.ops [
 ⟨(some 4),(.assign (.const (.bool false))),4,none⟩])
 .ret)
 .skip))
 (.seq
 (.seq
 (.ops [
 ⟨(some 17),(.fieldAddr 31 (.tmp 2) 2),0,none⟩,
 ⟨(some 18),(.load 23 (.tmp 17)),23,none⟩,
 ⟨(some 19),(.fieldAddr 31 (.tmp 3) 2),0,none⟩,
 ⟨(some 20),(.load 23 (.tmp 19)),23,none⟩,
 ⟨(some 21),(.call ⟨(.value (.func 14)), #[(.tmp 18),(.tmp 20)], #[23,23]⟩),4,none⟩,
 ⟨(some 22),(.unOp .not 4 (.tmp 21)),4,none⟩])
 (.cond (.tmp 22)
 (.seq
 (.ops [
 ⟨(some 4),(.assign (.const (.bool false))),4,none⟩])
 .ret)
 .skip))
 (.seq
 (.ops [
 ⟨(some 4),(.assign (.const (.bool true))),4,none⟩])
 .ret))))
theorem A28:Try.f13.body.map (Bh lends)=some k13:=by kernel_rfl
theorem AGp:CB Try.f13 2=true:=by kernel_rfl
theorem oo{a l:List D}{r:D×List D}(h:Bq Y.env k13 (fin AX l.length [ResultVar.tmp 4] r) (entry a l))(ha:a.length=2):Y.call 13 a l=some r:=
 AU (Y:=Y) rfl Try.func13 (ha▸AGp) A28 h
theorem Px(Ad:List (List (Int×Int)))(Au:List Int)(Ab:List Int)(Jq:List (List (Int×Int)))(MW:List Int)(FW:List Int){r:Bool}(h:L9 Ad Au Ab Jq MW FW=some r):Y.call 13 [D.agg [D.sl 100 (AP (fun x=>D.sl 102 (AY .i64 .i64 x)) Ad),D.sl 3 (AP (D.int .i64) Au),D.sl 3 (AP (D.int .i64) Ab)],D.agg [D.sl 100 (AP (fun x=>D.sl 102 (AY .i64 .i64 x)) Jq),D.sl 3 (AP (D.int .i64) MW),D.sl 3 (AP (D.int .i64) FW)]] []=some (D.bool r,[]):=by
 refine oo ?_ rfl
 unfold k13
 unfold L9 at h
 obtain⟨e1,h⟩:=BF h
 have c2:=X3 Ad Jq e1
 by_cases e3:(decide (Ad=Jq))=true
 ·rw [if_pos e3]at h
  obtain⟨e4,h⟩:=BF h
  have c5:=Bj Au MW e4
  by_cases e6:(decide (Au=MW))=true
  ·rw [if_pos e6]at h
   obtain⟨e7,h⟩:=BF h
   have c8:=Bj Ab FW e7
   by_cases e9:(decide (Ab=FW))=true
   ·rw [if_pos e9]at h
    obtain rfl:=Option.some.inj h
    simp (maxDischargeDepth:=9) only [↓AO,AB,BP,AJ,AQ,↓reduceIte,Nat.reduceEqDiff,Nat.reduceLT,Nat.reduceAdd,c2,e3,c5,e6,c8,e9]
   ·rw [if_neg e9]at h
    have e9f:(decide (Ab=FW))=false:=Bool.eq_false_iff.mpr e9
    obtain rfl:=Option.some.inj h
    simp (maxDischargeDepth:=9) only [↓AO,AB,BP,AJ,AQ,↓reduceIte,Nat.reduceEqDiff,Nat.reduceLT,Nat.reduceAdd,c2,e3,c5,e6,c8,e9f]
  ·rw [if_neg e6]at h
   have e6f:(decide (Au=MW))=false:=Bool.eq_false_iff.mpr e6
   obtain rfl:=Option.some.inj h
   simp (maxDischargeDepth:=9) only [↓AO,AB,BP,AJ,AQ,↓reduceIte,Nat.reduceEqDiff,Nat.reduceLT,Nat.reduceAdd,c2,e3,c5,e6f]
 ·rw [if_neg e3]at h
  have e3f:(decide (Ad=Jq))=false:=Bool.eq_false_iff.mpr e3
  obtain rfl:=Option.some.inj h
  simp (maxDischargeDepth:=9) only [↓AO,AB,BP,AJ,AQ,↓reduceIte,Nat.reduceEqDiff,Nat.reduceLT,Nat.reduceAdd,c2,e3f]
def EK(a:List (List (Int×Int)))(b c:List Int)(a':List (List (Int×Int)))(b' c':List Int):Bool:=decide (a=a'∧b=b'∧c=c')
theorem TG(a:List (List (Int×Int)))(b c:List Int):EK a b c a b c=true:=by simp [EK]
theorem TH(a:List (List (Int×Int)))(b c:List Int)(a':List (List (Int×Int)))(b' c':List Int)(h:BX a)(hb:b.length<1099511627776)(hc:c.length<1099511627776):L9 a b c a' b' c'=some (EK a b c a' b' c'):=by
 unfold L9 EK
 rw [BL h,BL hb,BL hc]
 by_cases h1:a=a'<;>by_cases h2:b=b'<;>by_cases h3:c=c'<;>simp [h1,h2,h3]
theorem Ap(Ad:List (List (Int×Int)))(Au:List Int)(Ab:List Int)(Jq:List (List (Int×Int)))(MW:List Int)(FW:List Int)(h0:BX Ad)(h1:Au.length<1099511627776)(h2:Ab.length<1099511627776):Y.call 13 [D.agg [D.sl 100 (AP (fun x=>D.sl 102 (AY .i64 .i64 x)) Ad),D.sl 3 (AP (D.int .i64) Au),D.sl 3 (AP (D.int .i64) Ab)],D.agg [D.sl 100 (AP (fun x=>D.sl 102 (AY .i64 .i64 x)) Jq),D.sl 3 (AP (D.int .i64) MW),D.sl 3 (AP (D.int .i64) FW)]] []=some (D.bool (EK Ad Au Ab Jq MW FW),[]):=Px Ad Au Ab Jq MW FW (TH Ad Au Ab Jq MW FW h0 h1 h2)
noncomputable def P9(a:List (Int×Int))(left:Int):Option (Int):=
 if(IntKind.i64.wrap (left-(a.length:Int)))<0 then
  some (-1)
 else
  some (IntKind.i64.wrap (left-(a.length:Int)))
def k70:SC:=
 .seq
 (.ops [
 ⟨(some 4),(.assign (.const (.int .i64 0))),3,none⟩])
 (.seq
 (.ops [
 ⟨(some 5),(.move (.tmp 1)),3,none⟩,
 ⟨(some 6),(.move (.tmp 0)),97,none⟩,
 ⟨(some 7),(.call ⟨(.builtin .len), #[(.tmp 6)], #[97]⟩),3,none⟩,
 ⟨(some 8),(.binOp .sub 3 (.tmp 5) (.tmp 7) 3),3,none⟩,
 ⟨(some 1),(.assign (.tmp 8)),3,none⟩])
 (.seq
 (.seq
 (.ops [
 ⟨(some 9),(.move (.tmp 1)),3,none⟩,
 ⟨(some 10),(.binOp .lss 3 (.tmp 9) (.const (.int .i64 0)) 3),4,none⟩])
 (.cond (.tmp 10)
 (.seq
 (.ops [
 ⟨(some 4),(.assign (.const (.int .i64 (-1)))),3,none⟩])
 .ret)
 .skip))
 (.seq
 (.ops [
 ⟨(some 11),(.move (.tmp 1)),3,none⟩,
 ⟨(some 4),(.assign (.tmp 11)),3,none⟩])
 .ret)))
theorem A29:Try.f70.body.map (Bh lends)=some k70:=by kernel_rfl
theorem AGr:CB Try.f70 2=true:=by kernel_rfl
theorem c70{a l:List D}{r:D×List D}(h:Bq Y.env k70 (fin AX l.length [ResultVar.tmp 4] r) (entry a l))(ha:a.length=2):Y.call 70 a l=some r:=
 AU (Y:=Y) rfl Try.func70 (ha▸AGr) A29 h
theorem UV(a:List (Int×Int))(left:Int){r:Int}(h:P9 a left=some r):Y.call 70 [D.sl 141 (AY .i64 .i64 a),D.int .i64 left] []=some (D.int .i64 r,[]):=by
 refine c70 ?_ rfl
 unfold k70
 unfold P9 at h
 by_cases e1:(IntKind.i64.wrap (left-(a.length:Int)))<0
 ·rw [if_pos e1]at h
  obtain rfl:=Option.some.inj h
  simp (maxDischargeDepth:=9) only [↓AO,AB,BP,AJ,AQ,↓reduceIte,Nat.reduceEqDiff,Nat.reduceLT,Int.reduceNeg,e1]
 ·rw [if_neg e1]at h
  obtain rfl:=Option.some.inj h
  simp (maxDischargeDepth:=9) only [↓AO,AB,BP,AJ,AQ,↓reduceIte,Nat.reduceEqDiff,Nat.reduceLT,Int.reduceNeg,e1]
theorem ZT(a:List (Int×Int))(left:Int)(ha:a.length<9223372036854775808)(hl:0≤left∧left≤1048576):P9 a left=some (GY left a.length):=by
 unfold P9 GY
 rw [LP _ (by omega)]
 split<;>rfl
theorem ZU(a:List (Int×Int))(left:Int)(h0:a.length<9223372036854775808)(h1:0≤left∧left≤1048576):Y.call 70 [D.sl 141 (AY .i64 .i64 a),D.int .i64 left] []=some (D.int .i64 (GY left a.length),[]):=UV a left (ZT a left h0 h1)
noncomputable def F5(a:List (List (Int×Int)))(left1:Int)(i:Int):Option ((Int×Int)⊕(Unit⊕Int)):=
 if i<(a.length:Int)then
  ck (0≤i∧i.toNat<a.length)<|
  ck ((a.getD i.toNat default).length<9223372036854775808)<|
  ck (0≤left1∧left1≤1048576)<|
  if(GY left1 (a.getD i.toNat default).length)<0 then
   some (Sum.inr (Sum.inl ()))
  else
   some (Sum.inl ((GY left1 (a.getD i.toNat default).length),IntKind.i64.wrap (i+1)))
 else
  some (Sum.inr (Sum.inr left1))
noncomputable def FM(a:List (List (Int×Int)))(v:Int×Int):Option (Unit⊕Int):=Hy (fun v=>F5 a v.1 v.2) v
noncomputable def Nc(a:List (List (Int×Int)))(left:Int):Option (Int):=
 if(IntKind.i64.wrap (left-(a.length:Int)))<0 then
  some (-1)
 else
  (FM a (IntKind.i64.wrap (left-(a.length:Int)),0)).bind fun FD=>
  match FD with
  | .inl q3_=>
   some (-1)
  | .inr q3_=>
   some q3_
def X4:SC:=
 .seq
 (.seq
 (.ops [
 ⟨(some 12),(.move (.tmp 5)),3,none⟩,
 ⟨(some 13),(.move (.tmp 0)),22,none⟩,
 ⟨(some 14),(.call ⟨(.builtin .len), #[(.tmp 13)], #[22]⟩),3,none⟩,
 ⟨(some 15),(.binOp .lss 3 (.tmp 12) (.tmp 14) 3),4,none⟩])
 (.cond (.tmp 15)
 .skip
 (.exit 0)))
 (.seq
 (.block 1
 (.seq
 (.ops [
 ⟨(some 18),(.move (.tmp 0)),22,none⟩,
 ⟨(some 19),(.move (.tmp 5)),3,none⟩,
 ⟨(some 20),(.indexAddr 22 (.tmp 18) (.tmp 19)),0,none⟩,
 ⟨(some 21),(.load 97 (.tmp 20)),97,none⟩,
 ⟨(some 22),(.move (.tmp 1)),3,none⟩,
 ⟨(some 23),(.call ⟨(.value (.func 70)), #[(.tmp 21),(.tmp 22)], #[97,3]⟩),3,none⟩,
 ⟨(some 1),(.assign (.tmp 23)),3,none⟩])
 (.seq
 (.ops [
 ⟨(some 24),(.move (.tmp 1)),3,none⟩,
 ⟨(some 25),(.binOp .lss 3 (.tmp 24) (.const (.int .i64 0)) 3),4,none⟩])
 (.cond (.tmp 25)
 (.seq
 (.ops [
 ⟨(some 4),(.assign (.const (.int .i64 (-1)))),3,none⟩])
 .ret)
 .skip))))
 (.ops [
 ⟨(some 16),(.move (.tmp 5)),3,none⟩,
 ⟨(some 17),(.binOp .add 3 (.tmp 16) (.const (.int .i64 1)) 3),3,none⟩,
 ⟨(some 5),(.assign (.tmp 17)),3,none⟩]))
def mh:SC:= .loop X4
def k31:SC:=
 .seq
 (.ops [
 ⟨(some 4),(.assign (.const (.int .i64 0))),3,none⟩])
 (.seq
 (.ops [
 ⟨(some 6),(.move (.tmp 1)),3,none⟩,
 ⟨(some 7),(.move (.tmp 0)),22,none⟩,
 ⟨(some 8),(.call ⟨(.builtin .len), #[(.tmp 7)], #[22]⟩),3,none⟩,
 ⟨(some 9),(.binOp .sub 3 (.tmp 6) (.tmp 8) 3),3,none⟩,
 ⟨(some 1),(.assign (.tmp 9)),3,none⟩])
 (.seq
 (.seq
 (.ops [
 ⟨(some 10),(.move (.tmp 1)),3,none⟩,
 ⟨(some 11),(.binOp .lss 3 (.tmp 10) (.const (.int .i64 0)) 3),4,none⟩])
 (.cond (.tmp 11)
 (.seq
 (.ops [
 ⟨(some 4),(.assign (.const (.int .i64 (-1)))),3,none⟩])
 .ret)
 .skip))
 (.seq
 (.seq
 (.ops [
 ⟨(some 5),(.assign (.const (.int .i64 0))),3,none⟩])
 (.block 0
 mh))
 (.seq
 (.ops [
 ⟨(some 26),(.move (.tmp 1)),3,none⟩,
 ⟨(some 4),(.assign (.tmp 26)),3,none⟩])
 .ret))))
theorem A2A:Try.f31.body.map (Bh lends)=some k31:=by kernel_rfl
theorem AGt:CB Try.f31 2=true:=by kernel_rfl
theorem c31{a l:List D}{r:D×List D}(h:Bq Y.env k31 (fin AX l.length [ResultVar.tmp 4] r) (entry a l))(ha:a.length=2):Y.call 31 a l=some r:=
 AU (Y:=Y) rfl Try.func31 (ha▸AGt) A2A h
def Dy(a:List (List (Int×Int)))(left1:Int)(i:Int)(s:St):Prop:=s.v 0=D.sl 97 (AP (fun x=>D.sl 141 (AY .i64 .i64 x)) a)∧s.v 1=D.int .i64 left1∧s.v 5=D.int .i64 i
def F6(a:List (List (Int×Int)))(r:Unit⊕Int)(ex:Ex)(s:St):Prop:=match r with
 | .inl q=>ex= .ret∧s.v 4=D.int .i64 (-1)
 | .inr q=>ex= .exit 0∧s.v 1=D.int .i64 q
theorem Qx(a:List (List (Int×Int))){v:Int×Int}{s:St}{r:Unit⊕Int}(h:FM a v=some r)(hM:Dy a v.1 v.2 s):Bq Y.env mh (F6 a r) s:=by
 unfold FM at h
 refine BN (c:=X4) (fun v=>F5 a v.1 v.2) (fun v s=>Dy a v.1 v.2 s) (F6 a) ?_ h hM
 clear h hM s v r
 intro v s o hM h
 obtain⟨left1,i⟩:=v
 dsimp only at h hM
 unfold F5 at h
 unfold Dy at hM
 obtain⟨m0,m1,m2⟩:=hM
 unfold X4
 by_cases e2:i<(a.length:Int)
 ·rw [if_pos e2]at h
  obtain⟨e3,h⟩:=BF h
  obtain⟨e4,h⟩:=BF h
  obtain⟨e5,h⟩:=BF h
  have c6:=ZU (a.getD i.toNat default) left1 e4 e5
  by_cases e7:(GY left1 (a.getD i.toNat default).length)<0
  ·rw [if_pos e7]at h
   obtain rfl:=Option.some.inj h
   simp (maxDischargeDepth:=9) only [↓AO,AB,Ac,BP,AJ,AQ,↓reduceIte,Nat.reduceEqDiff,Nat.reduceLT,Nat.reduceAdd,Int.reduceNeg,m0,m1,m2,e2,e3.1,e3.2,c6,e7,Dy,F6,Qp]
  ·rw [if_neg e7]at h
   obtain rfl:=Option.some.inj h
   simp (maxDischargeDepth:=9) only [↓AO,AB,Ac,BP,AJ,AQ,↓reduceIte,Nat.reduceEqDiff,Nat.reduceLT,Nat.reduceAdd,Int.reduceNeg,m0,m1,m2,e2,e3.1,e3.2,c6,e7,Dy,Ik]
 ·rw [if_neg e2]at h
  obtain rfl:=Option.some.inj h
  simp (maxDischargeDepth:=9) only [↓AO,AB,Ac,AQ,↓reduceIte,Nat.reduceEqDiff,Nat.reduceLT,Int.reduceNeg,m0,m1,m2,e2,Dy,F6,KF]
theorem TI(a:List (List (Int×Int)))(left:Int){r:Int}(h:Nc a left=some r):Y.call 31 [D.sl 97 (AP (fun x=>D.sl 141 (AY .i64 .i64 x)) a),D.int .i64 left] []=some (D.int .i64 r,[]):=by
 refine c31 ?_ rfl
 unfold k31
 unfold Nc at h
 by_cases e1:(IntKind.i64.wrap (left-(a.length:Int)))<0
 ·rw [if_pos e1]at h
  obtain rfl:=Option.some.inj h
  simp (maxDischargeDepth:=9) only [↓AO,AB,Ac,AJ,AQ,↓reduceIte,Nat.reduceEqDiff,Nat.reduceLT,Int.reduceNeg,e1]
 ·rw [if_neg e1]at h
  obtain⟨FD,hl3,h⟩:=Ao h
  try dsimp only at h
  simp (maxDischargeDepth:=9) only [↓AO,AB,Ac,AJ,AQ,↓reduceIte,Nat.reduceEqDiff,Nat.reduceLT,Int.reduceNeg,e1]
  refine Ay (Qx a hl3 ?_) ?_
  ·simp (maxDischargeDepth:=9) only [AB,AJ,↓reduceIte,Nat.reduceEqDiff,Nat.reduceLT,Dy]
  ·intro ex3 s3 hX3
   rcases FD with q3_ | q3_
   ·unfold F6 at hX3
    dsimp only at hX3 h
    obtain⟨rfl,n3_0⟩:=hX3
    obtain rfl:=Option.some.inj h
    simp (maxDischargeDepth:=9) only [↓AO,AB,AJ,↓reduceIte,Int.reduceNeg,n3_0]
   ·unfold F6 at hX3
    dsimp only at hX3 h
    obtain⟨rfl,n3_0⟩:=hX3
    obtain rfl:=Option.some.inj h
    simp (maxDischargeDepth:=9) only [↓AO,AB,AJ,↓reduceIte,Nat.reduceEqDiff,Nat.reduceLT,n3_0]
def fE(l:List (List (Int×Int))):List (List Int):=l.map fun x=>x.map Prod.fst
theorem Qy(a:List (List (Int×Int)))(ha:a.length<4611686018427387904)(hx: ∀x∈a,x.length<9223372036854775808): ∀(n i:Nat) (left:Int),n=a.length-i→i≤a.length→0≤left∧left≤1048576→
  FM a (left,(i:Int))=some (if zQ left (fE (a.drop i))= -1 then .inl ()else .inr (zQ left (fE (a.drop i)))):=by
 intro n
 induction n with
 | zero=>
  intro i left hn hi hl
  have e:i=a.length:=by omega
  subst e
  unfold FM
  rw [IX (r:=Sum.inr left)]
  ·rw [List.drop_length,show fE []=[]from rfl];unfold zQ;rw [if_neg (by omega)]
  ·simp only [F5];rw [if_neg (Ag _)]
 | succ n ih=>
  intro i left hn hi hl
  have hlt:i<a.length:=by omega
  have hm:a[i]∈a:=List.getElem_mem hlt
  have hxm:=hx _ hm
  have step:F5 a left i=if GY left a[i].length<0 then some (Sum.inr (Sum.inl ()))else some (Sum.inl (GY left a[i].length,((i+1:Nat):Int))):=by
   unfold F5
   rw [if_pos (BV hlt),BL (Ew hlt),BL (by rw [Ia _ _ hlt];exact hxm),BL hl,Ia _ _ hlt,KH i (by omega)]
  rw [List.drop_eq_getElem_cons hlt,show fE (a[i]::a.drop (i+1))=a[i].map Prod.fst::fE (a.drop (i+1))from rfl]
  unfold zQ
  rw [List.length_map]
  by_cases hq:left-(a[i].length:Int)<0
  ·rw [if_pos hq]
   unfold FM
   rw [IX (r:=Sum.inl ())]
   ·rfl
   ·rw [step];unfold GY;rw [if_pos hq];rfl
  ·rw [if_neg hq]
   have e2:GY left a[i].length=left-a[i].length:=by unfold GY;rw [if_neg hq]
   have:=ih (i+1) (left-a[i].length) (by omega) (by omega) (by omega)
   unfold FM at this ⊢
   rw [Ku (s':=(left-(a[i].length:Int),((i+1:Nat):Int))),this]
   ·rw [step,e2,if_neg hq]
def Nr(l:List (List (Int×Int))):Prop:=l.length<9223372036854775808∧ ∀x∈l,x.length<9223372036854775808
instance (l:List (List (Int×Int))):Decidable (Nr l):=by unfold Nr;infer_instance
theorem X5(a:List (List (Int×Int)))(left:Int)(hw:Nr a)(hl:0≤left∧left≤1048576):Nc a left=some (GY left (a.length+BK (fE a))):=by
 have ht:=Dw (fE a)
 have ha:=hw.1
 unfold Nc
 rw [LP _ (by omega)]
 by_cases hq:left-(a.length:Int)<0
 ·rw [if_pos hq];unfold GY;rw [if_pos (by omega)]
 ·rw [if_neg hq]
  have h0:=Qy a (by omega) hw.2 a.length 0 (left-a.length) (by omega) (by omega) (by omega)
  simp only [Int.natCast_zero,List.drop_zero]at h0
  rw [h0,Option.bind_some,A1l _ _ (by omega)]
  have e:GY (left-a.length) (BK (fE a))=GY left (a.length+BK (fE a)):=by unfold GY;rw [show left- ↑a.length-BK (fE a)=left-(↑a.length+BK (fE a)) by omega]
  rw [e]
  by_cases h1:GY left (a.length+BK (fE a))= -1
  ·rw [if_pos h1,h1]
  ·rw [if_neg h1]
theorem X6(a:List (List (Int×Int)))(left:Int)(h0:Nr a)(h1:0≤left∧left≤1048576):Y.call 31 [D.sl 97 (AP (fun x=>D.sl 141 (AY .i64 .i64 x)) a),D.int .i64 left] []=some (D.int .i64 (GY left (a.length+BK (fE a))),[]):=TI a left (X5 a left h0 h1)
noncomputable def LA(Ad:List (List (Int×Int)))(Au:List Int)(Ab:List Int)(left:Int):Option (Int):=
 ck (Nr Ad)<|
 ck (0≤left∧left≤1048576)<|
 if(GY left (Ad.length+BK (fE Ad)))<0 then
  some (-1)
 else
  ck (Au.length<9223372036854775808)<|
  ck (0≤(GY left (Ad.length+BK (fE Ad)))∧(GY left (Ad.length+BK (fE Ad)))≤1048576)<|
  if(GY (GY left (Ad.length+BK (fE Ad))) Au.length)<0 then
   some (-1)
  else
   ck (Ab.length<9223372036854775808)<|
   ck (0≤(GY (GY left (Ad.length+BK (fE Ad))) Au.length)∧(GY (GY left (Ad.length+BK (fE Ad))) Au.length)≤1048576)<|
   if(GY (GY (GY left (Ad.length+BK (fE Ad))) Au.length) Ab.length)<0 then
    some (-1)
   else
    some (GY (GY (GY left (Ad.length+BK (fE Ad))) Au.length) Ab.length)
def k8:SC:=
 .seq
 (.ops [
 ⟨(some 2),(.box 25 (.tmp 0)),0,none⟩,
 ⟨(some 4),(.assign (.const (.int .i64 0))),3,none⟩])
 (.seq
 (.ops [
 ⟨(some 5),(.fieldAddr 25 (.tmp 2) 0),0,none⟩,
 ⟨(some 6),(.load 22 (.tmp 5)),22,none⟩,
 ⟨(some 7),(.move (.tmp 1)),3,none⟩,
 ⟨(some 8),(.call ⟨(.value (.func 31)), #[(.tmp 6),(.tmp 7)], #[22,3]⟩),3,none⟩,
 ⟨(some 1),(.assign (.tmp 8)),3,none⟩])
 (.seq
 (.seq
 (.ops [
 ⟨(some 9),(.move (.tmp 1)),3,none⟩,
 ⟨(some 10),(.binOp .lss 3 (.tmp 9) (.const (.int .i64 0)) 3),4,none⟩])
 (.cond (.tmp 10)
 (.seq
 (.ops [
 ⟨(some 4),(.assign (.const (.int .i64 (-1)))),3,none⟩])
 .ret)
 .skip))
 (.seq
 (.ops [
 ⟨(some 11),(.fieldAddr 25 (.tmp 2) 1),0,none⟩,
 ⟨(some 12),(.load 23 (.tmp 11)),23,none⟩,
 ⟨(some 13),(.move (.tmp 1)),3,none⟩,
 ⟨(some 14),(.call ⟨(.value (.func 32)), #[(.tmp 12),(.tmp 13)], #[23,3]⟩),3,none⟩,
 ⟨(some 1),(.assign (.tmp 14)),3,none⟩])
 (.seq
 (.seq
 (.ops [
 ⟨(some 15),(.move (.tmp 1)),3,none⟩,
 ⟨(some 16),(.binOp .lss 3 (.tmp 15) (.const (.int .i64 0)) 3),4,none⟩])
 (.cond (.tmp 16)
 (.seq
 (.ops [
 ⟨(some 4),(.assign (.const (.int .i64 (-1)))),3,none⟩])
 .ret)
 .skip))
 (.seq
 (.ops [
 ⟨(some 17),(.fieldAddr 25 (.tmp 2) 2),0,none⟩,
 ⟨(some 18),(.load 23 (.tmp 17)),23,none⟩,
 ⟨(some 19),(.move (.tmp 1)),3,none⟩,
 ⟨(some 20),(.call ⟨(.value (.func 32)), #[(.tmp 18),(.tmp 19)], #[23,3]⟩),3,none⟩,
 ⟨(some 1),(.assign (.tmp 20)),3,none⟩])
 (.seq
 (.seq
 (.ops [
 ⟨(some 21),(.move (.tmp 1)),3,none⟩,
 ⟨(some 22),(.binOp .lss 3 (.tmp 21) (.const (.int .i64 0)) 3),4,none⟩])
 (.cond (.tmp 22)
 (.seq
 (.ops [
 ⟨(some 4),(.assign (.const (.int .i64 (-1)))),3,none⟩])
 .ret)
 .skip))
 (.seq
 (.ops [
 ⟨(some 23),(.move (.tmp 1)),3,none⟩,
 ⟨(some 4),(.assign (.tmp 23)),3,none⟩])
 .ret)))))))
theorem AAY:Try.f8.body.map (Bh lends)=some k8:=by kernel_rfl
theorem ok8:CB Try.f8 2=true:=by kernel_rfl
theorem c8{a l:List D}{r:D×List D}(h:Bq Y.env k8 (fin AX l.length [ResultVar.tmp 4] r) (entry a l))(ha:a.length=2):Y.call 8 a l=some r:=
 AU (Y:=Y) rfl Try.func8 (ha▸ok8) AAY h
theorem Py(Ad:List (List (Int×Int)))(Au:List Int)(Ab:List Int)(left:Int){r:Int}(h:LA Ad Au Ab left=some r):Y.call 8 [D.agg [D.sl 97 (AP (fun x=>D.sl 141 (AY .i64 .i64 x)) Ad),D.sl 3 (AP (D.int .i64) Au),D.sl 3 (AP (D.int .i64) Ab)],D.int .i64 left] []=some (D.int .i64 r,[]):=by
 refine c8 ?_ rfl
 unfold k8
 unfold LA at h
 obtain⟨e1,h⟩:=BF h
 obtain⟨e2,h⟩:=BF h
 have c3:=X6 Ad left e1 e2
 by_cases e4:(GY left (Ad.length+BK (fE Ad)))<0
 ·rw [if_pos e4]at h
  obtain rfl:=Option.some.inj h
  simp (maxDischargeDepth:=9) only [↓AO,AB,BP,AJ,AQ,↓reduceIte,Nat.reduceEqDiff,Nat.reduceLT,Nat.reduceAdd,Int.reduceNeg,c3,e4]
 ·rw [if_neg e4]at h
  obtain⟨e5,h⟩:=BF h
  obtain⟨e6,h⟩:=BF h
  have c7:=Qb Au (GY left (Ad.length+BK (fE Ad))) e5 e6
  by_cases e8:(GY (GY left (Ad.length+BK (fE Ad))) Au.length)<0
  ·rw [if_pos e8]at h
   obtain rfl:=Option.some.inj h
   simp (maxDischargeDepth:=9) only [↓AO,AB,BP,AJ,AQ,↓reduceIte,Nat.reduceEqDiff,Nat.reduceLT,Nat.reduceAdd,Int.reduceNeg,c3,e4,c7,e8]
  ·rw [if_neg e8]at h
   obtain⟨e9,h⟩:=BF h
   obtain⟨e10,h⟩:=BF h
   have Iw:=Qb Ab (GY (GY left (Ad.length+BK (fE Ad))) Au.length) e9 e10
   by_cases e12:(GY (GY (GY left (Ad.length+BK (fE Ad))) Au.length) Ab.length)<0
   ·rw [if_pos e12]at h
    obtain rfl:=Option.some.inj h
    simp (maxDischargeDepth:=9) only [↓AO,AB,BP,AJ,AQ,↓reduceIte,Nat.reduceEqDiff,Nat.reduceLT,Nat.reduceAdd,Int.reduceNeg,c3,e4,c7,e8,Iw,e12]
   ·rw [if_neg e12]at h
    obtain rfl:=Option.some.inj h
    simp (maxDischargeDepth:=9) only [↓AO,AB,BP,AJ,AQ,↓reduceIte,Nat.reduceEqDiff,Nat.reduceLT,Nat.reduceAdd,Int.reduceNeg,c3,e4,c7,e8,Iw,e12]
def oq(left:Int)(a:List (List (Int×Int)))(b c:List Int):Int:=
 if GY left (a.length+BK (fE a))<0 then-1 else if GY (GY left (a.length+BK (fE a))) b.length<0 then-1 else GY (GY (GY left (a.length+BK (fE a))) b.length) c.length
theorem TJ(a:List (List (Int×Int)))(b c:List Int)(left:Int)(ha:Nr a)(hb:b.length<9223372036854775808)(hc:c.length<9223372036854775808)(hl:0≤left∧left≤1048576):LA a b c left=some (oq left a b c):=by
 have ht:=Dw (fE a)
 unfold LA oq
 rw [BL ha,BL hl]
 by_cases h1:GY left (a.length+BK (fE a))<0
 ·rw [if_pos h1,if_pos h1]
 ·rw [if_neg h1,if_neg h1]
  have b1:0≤GY left (a.length+BK (fE a))∧GY left (a.length+BK (fE a))≤1048576:=by
   rcases KI left (a.length+BK (fE a))with c | ⟨c,c'⟩<;>omega
  rw [BL hb,BL b1]
  by_cases h2:GY (GY left (a.length+BK (fE a))) b.length<0
  ·rw [if_pos h2,if_pos h2]
  ·rw [if_neg h2,if_neg h2]
   have b2:0≤GY (GY left (a.length+BK (fE a))) b.length∧GY (GY left (a.length+BK (fE a))) b.length≤1048576:=by
    rcases KI (GY left (a.length+BK (fE a))) b.length with c | ⟨c,c'⟩<;>omega
   rw [BL hc,BL b2]
   by_cases h3:GY (GY (GY left (a.length+BK (fE a))) b.length) c.length<0
   ·rw [if_pos h3]
    rcases KI (GY (GY left (a.length+BK (fE a))) b.length) c.length with d | ⟨d,d'⟩
    ·rw [d]
    ·omega
   ·rw [if_neg h3]
theorem TK(Ad:List (List (Int×Int)))(Au:List Int)(Ab:List Int)(left:Int)(h0:Nr Ad)(h1:Au.length<9223372036854775808)(h2:Ab.length<9223372036854775808)(h3:0≤left∧left≤1048576):Y.call 8 [D.agg [D.sl 97 (AP (fun x=>D.sl 141 (AY .i64 .i64 x)) Ad),D.sl 3 (AP (D.int .i64) Au),D.sl 3 (AP (D.int .i64) Ab)],D.int .i64 left] []=some (D.int .i64 (oq left Ad Au Ab),[]):=Py Ad Au Ab left (TJ Ad Au Ab left h0 h1 h2 h3)
theorem rD{a:List (List (Int×Int))}{b c:List Int}{left:Int}(hl:left≤1048576)(h: ¬oq left a b c<0):a.length+BK (fE a)+b.length+c.length≤1048576∧BX a∧oq left a b c≤left:=by
 have ht:=Dw (fE a)
 have key:(a.length:Int)+BK (fE a)+b.length+c.length≤1048576∧oq left a b c≤left:=by
  unfold oq at h ⊢
  rcases KI left (a.length+BK (fE a))with d | ⟨d,d'⟩
  ·rw [d]at h;simp at h
  ·rw [d,if_neg (by omega)]at h
   rw [d,if_neg (by omega)]
   rcases KI (left-(a.length+BK (fE a))) b.length with e | ⟨e,e'⟩
   ·rw [e]at h;simp at h
   ·rw [e,if_neg (by omega)]at h
    rw [e,if_neg (by omega)]
    rcases KI (left-(a.length+BK (fE a))-b.length) c.length with g | ⟨g,g'⟩
    ·rw [g]at h;simp at h
    ·rw [g];omega
 refine⟨key.1,⟨by omega,fun x hx=> ?_⟩,key.2⟩
 have:x.map Prod.fst∈fE a:=List.mem_map.2 ⟨x,hx,rfl⟩
 have:=qp this
 rw [List.length_map]at this
 omega
theorem mo{l:List (List (Int×Int))}(h:bf l):Nr l:=⟨Nat.lt_of_le_of_lt h.1 (by decide),fun x hx=>Nat.lt_of_le_of_lt (h.2 x hx).1 (by decide)⟩
end Go.Proofs.Ytipfckompmhljaa
