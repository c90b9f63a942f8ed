/- Copies, comparisons, sizes and marks of numbers in lists, as plain functions. Conditions: the lists are short. -/
import Derived.Test.YtipfckompmhljaaL6
import Derived.Test.YtipfckompmhljaaDt
namespace Go.Proofs.Ytipfckompmhljaa
open Go Dv
set_option linter.unusedSimpArgs false
set_option linter.unusedVariables false
set_option maxRecDepth 100000
set_option maxHeartbeats 4000000
def QZ(l:List (List Int)):Prop:=l.length<1099511627776∧ ∀x∈l,x.length<1099511627776
theorem QZ.nil:QZ []:=⟨by decide,fun _ h=>by cases h⟩
theorem QZ.at{l:List (List Int)}(h:QZ l)(i:Nat)(hi:i<l.length):l[i].length<1099511627776:=h.2 _ (List.getElem_mem hi)
instance (l:List (List Int)):Decidable (QZ l):=by unfold QZ;infer_instance
theorem WW{α:Type}[Inhabited α](xs:List α)(i:Nat)(h:i<xs.length)(z:α):(xs.take i++List.replicate (xs.length-i) z).set i xs[i]=xs.take (i+1)++List.replicate (xs.length-(i+1)) z:=by
 have e:xs.length-i=(xs.length-(i+1))+1:=by omega
 rw [e,List.replicate_succ,List.set_append_right _ _ (by simp;omega),List.take_succ_eq_append_getElem h]
 have:i-(xs.take i).length=0:=by simp;omega
 rw [this,List.set_cons_zero,List.append_assoc];rfl
noncomputable def Fe(a:List Int)(out:List Int)(i:Int):Option (((List Int)×Int)⊕((List Int))):=
 if i<(a.length:Int)then
  ck (0≤i∧i.toNat<a.length)<|
  ck (0≤i∧i.toNat<out.length)<|
  some (Sum.inl ((out.set i.toNat (a.getD i.toNat default)),IntKind.i64.wrap (i+1)))
 else
  some (Sum.inr out)
noncomputable def Kv(a:List Int)(v:(List Int)×Int):Option ((List Int)):=Hy (fun v=>Fe a v.1 v.2) v
noncomputable def Ox(a:List Int):Option ((List Int)):=
 ck (0≤(a.length:Int)∧(a.length:Int)<1099511627776)<|
 (Kv a ((List.replicate a.length 0),0)).bind fun FD=>
 some FD
def WX:SC:=
 .seq
 (.seq
 (.ops [
 ⟨(some 8),(.move (.tmp 4)),3,none⟩,
 ⟨(some 9),(.move (.tmp 0)),23,none⟩,
 ⟨(some 10),(.call ⟨(.builtin .len), #[(.tmp 9)], #[23]⟩),3,none⟩,
 ⟨(some 11),(.binOp .lss 3 (.tmp 8) (.tmp 10) 3),4,none⟩])
 (.cond (.tmp 11)
 .skip
 (.exit 0)))
 (.seq
 (.block 1
 (.ops [
 ⟨(some 14),(.move (.tmp 3)),23,none⟩,
 ⟨(some 15),(.move (.tmp 4)),3,none⟩,
 ⟨(some 16),(.move (.tmp 0)),23,none⟩,
 ⟨(some 17),(.move (.tmp 4)),3,none⟩,
 ⟨(some 18),(.indexAddr 23 (.tmp 16) (.tmp 17)),0,none⟩,
 ⟨(some 19),(.load 3 (.tmp 18)),3,none⟩,
 ⟨(some 20),(.indexAddr 23 (.tmp 14) (.tmp 15)),0,none⟩,
 ⟨none,(.store 3 (.tmp 20) (.tmp 19)),0,none⟩]))
 (.ops [
 ⟨(some 12),(.move (.tmp 4)),3,none⟩,
 ⟨(some 13),(.binOp .add 3 (.tmp 12) (.const (.int .i64 1)) 3),3,none⟩,
 ⟨(some 4),(.assign (.tmp 13)),3,none⟩]))
def mM:SC:= .loop WX
def k11:SC:=
 .seq
 (.ops [
 ⟨(some 2),(.assign (.const (.slice none 0 0))),23,none⟩])
 (.seq
 (.ops [
 ⟨(some 5),(.move (.tmp 0)),23,none⟩,
 ⟨(some 6),(.call ⟨(.builtin .len), #[(.tmp 5)], #[23]⟩),3,none⟩,
 ⟨(some 7),(.makeSlice 23 (.tmp 6) (.tmp 6)),23,none⟩,
 ⟨(some 3),(.assign (.tmp 7)),23,none⟩])
 (.seq
 (.seq
 (.ops [
 ⟨(some 4),(.assign (.const (.int .i64 0))),3,none⟩])
 (.block 0
 mM))
 (.seq
 (.ops [
 ⟨(some 21),(.move (.tmp 3)),23,none⟩,
 ⟨(some 2),(.assign (.tmp 21)),23,none⟩])
 .ret)))
theorem A1h:Try.f11.body.map (Bh lends)=some k11:=by kernel_rfl
theorem AG9:CB Try.f11 1=true:=by kernel_rfl
theorem Iw{a l:List D}{r:D×List D}(h:Bq Y.env k11 (fin AX l.length [ResultVar.tmp 2] r) (entry a l))(ha:a.length=1):Y.call 11 a l=some r:=
 AU (Y:=Y) rfl Try.func11 (ha▸AG9) A1h h
def Ff(a:List Int)(out:List Int)(i:Int)(s:St):Prop:=s.v 0=D.sl 3 (AP (D.int .i64) a)∧s.v 3=D.own 3 (AP (D.int .i64) out)∧s.v 4=D.int .i64 i
def J9(a:List Int)(r:(List Int))(ex:Ex)(s:St):Prop:=ex= .exit 0∧s.v 3=D.own 3 (AP (D.int .i64) r)
theorem Su(a:List Int){v:(List Int)×Int}{s:St}{r:(List Int)}(h:Kv a v=some r)(hM:Ff a v.1 v.2 s):Bq Y.env mM (J9 a r) s:=by
 unfold Kv at h
 refine BN (c:=WX) (fun v=>Fe a v.1 v.2) (fun v s=>Ff a v.1 v.2 s) (J9 a) ?_ h hM
 clear h hM s v r
 intro v s o hM h
 obtain⟨out,i⟩:=v
 dsimp only at h hM
 unfold Fe at h
 unfold Ff at hM
 obtain⟨m0,m1,m2⟩:=hM
 unfold WX
 by_cases e2:i<(a.length:Int)
 ·rw [if_pos e2]at h
  obtain⟨e3,h⟩:=BF h
  obtain⟨e4,h⟩:=BF h
  obtain rfl:=Option.some.inj h
  simp (maxDischargeDepth:=9) only [↓AO,AB,Ac,AJ,AQ,↓reduceIte,Nat.reduceEqDiff,Nat.reduceLT,m0,m1,m2,e2,e3.1,e3.2,e4.2,Ff,Ik]
 ·rw [if_neg e2]at h
  obtain rfl:=Option.some.inj h
  simp (maxDischargeDepth:=9) only [↓AO,AB,Ac,AQ,↓reduceIte,Nat.reduceEqDiff,Nat.reduceLT,m0,m1,m2,e2,Ff,J9,KF]
theorem UI(a:List Int){r:(List Int)}(h:Ox a=some r):Y.call 11 [D.sl 3 (AP (D.int .i64) a)] []=some (D.own 3 (AP (D.int .i64) r),[]):=by
 refine Iw ?_ rfl
 unfold k11
 unfold Ox at h
 obtain⟨e1,h⟩:=BF h
 obtain⟨FD,hl3,h⟩:=Ao h
 try dsimp only at h
 simp (maxDischargeDepth:=9) only [↓AO,AB,Ac,AJ,AQ,↓reduceIte,Nat.reduceEqDiff,Nat.reduceLT,Nat.reduceLeDiff,e1.1,e1.2]
 refine Ay (Su a hl3 ?_) ?_
 ·simp (maxDischargeDepth:=9) only [AB,AJ,↓reduceIte,Nat.reduceEqDiff,Nat.reduceLT,Ff]
 ·intro ex3 s3 hX3
  unfold J9 at hX3
  obtain⟨rfl,n3_0⟩:=hX3
  obtain rfl:=Option.some.inj h
  simp (maxDischargeDepth:=9) only [↓AO,AB,Ac,AJ,↓reduceIte,Nat.reduceEqDiff,Nat.reduceLT,n3_0]
theorem ZJ(a:List Int)(h:a.length<1099511627776):Ox a=some a:=by
 have key:=Bd (fun v=>Fe a v.1 v.2) (fun i=>(a.take i++List.replicate (a.length-i) 0,(i:Int))) a.length a ?_ ?_
 ·unfold Ox Kv
  rw [BL (by omega)]
  simp only [List.take_zero,List.nil_append,Nat.sub_zero,Int.natCast_zero]at key
  rw [key];rfl
 ·intro i hi
  simp only [Fe]
  rw [if_pos (BV hi),BL (Ew hi),BL (Ew (by simp;omega)),Ia _ _ hi,Int.toNat_natCast,WW a i hi 0,KH i (by omega)]
 ·simp only [Fe]
  rw [if_neg (Ag _)];simp
theorem Qa(a:List Int)(h0:a.length<1099511627776):Y.call 11 [D.sl 3 (AP (D.int .i64) a)] []=some (D.own 3 (AP (D.int .i64) a),[]):=UI a (ZJ a h0)
noncomputable def Fg(a:List Int)(b:List Int)(i:Int):Option ((Int)⊕(Unit⊕Unit)):=
 if i<(a.length:Int)then
  ck (0≤i∧i.toNat<a.length)<|
  ck (0≤i∧i.toNat<b.length)<|
  if(a.getD i.toNat default)=(b.getD i.toNat default)then
   some (Sum.inl (IntKind.i64.wrap (i+1)))
  else
   some (Sum.inr (Sum.inl ()))
 else
  some (Sum.inr (Sum.inr ()))
noncomputable def Kw(a:List Int)(b:List Int)(v:Int):Option (Unit⊕Unit):=Hy (fun v=>Fg a b v) v
noncomputable def Oy(a:List Int)(b:List Int):Option (Bool):=
 if(a.length:Int)=(b.length:Int)then
  (Kw a b 0).bind fun FD=>
  match FD with
  | .inl q3_=>
   some false
  | .inr q3_=>
   some true
 else
  some false
def WY:SC:=
 .seq
 (.seq
 (.ops [
 ⟨(some 11),(.move (.tmp 5)),3,none⟩,
 ⟨(some 12),(.move (.tmp 0)),23,none⟩,
 ⟨(some 13),(.call ⟨(.builtin .len), #[(.tmp 12)], #[23]⟩),3,none⟩,
 ⟨(some 14),(.binOp .lss 3 (.tmp 11) (.tmp 13) 3),4,none⟩])
 (.cond (.tmp 14)
 .skip
 (.exit 0)))
 (.seq
 (.block 1
 (.seq
 (.draws [
 (⟨[17,0,0],[17,18,19,20,21,22,23,24,25],[17]⟩,⟨(some 17),(.move (.tmp 0)),23,none⟩),
 (⟨[18,5,5],[17,18,19,20,21,22,23,24,25],[18]⟩,⟨(some 18),(.move (.tmp 5)),3,none⟩),
 (⟨[19,17,18,0,5],[17,18,19,20,21,22,23,24,25],[19]⟩,⟨(some 19),(.indexAddr 23 (.tmp 17) (.tmp 18)),0,none⟩),
 (⟨[20,19,0],[17,18,19,20,21,22,23,24,25],[20]⟩,⟨(some 20),(.load 3 (.tmp 19)),3,none⟩),
 (⟨[21,1,1],[17,18,19,20,21,22,23,24,25],[21]⟩,⟨(some 21),(.move (.tmp 1)),23,none⟩),
 (⟨[22,5,5],[17,18,19,20,21,22,23,24,25],[22]⟩,⟨(some 22),(.move (.tmp 5)),3,none⟩),
 (⟨[23,21,22,1,5],[17,18,19,20,21,22,23,24,25],[23]⟩,⟨(some 23),(.indexAddr 23 (.tmp 21) (.tmp 22)),0,none⟩),
 (⟨[24,23,1],[17,18,19,20,21,22,23,24,25],[24]⟩,⟨(some 24),(.load 3 (.tmp 23)),3,none⟩),
 (⟨[25,20,24,0,1],[17,18,19,20,21,22,23,24,25],[25]⟩,⟨(some 25),(.binOp .neq 3 (.tmp 20) (.tmp 24) 3),4,none⟩)])
 (.cond (.tmp 25)
 (.seq
 (.ops [
 ⟨(some 4),(.assign (.const (.bool false))),4,none⟩])
 .ret)
 .skip)))
 (.ops [
 ⟨(some 15),(.move (.tmp 5)),3,none⟩,
 ⟨(some 16),(.binOp .add 3 (.tmp 15) (.const (.int .i64 1)) 3),3,none⟩,
 ⟨(some 5),(.assign (.tmp 16)),3,none⟩]))
def mO:SC:= .loop WY
def k14:SC:=
 .seq
 (.ops [
 ⟨(some 4),(.assign (.const (.bool false))),4,none⟩])
 (.seq
 (.seq
 (.ops [
 ⟨(some 6),(.move (.tmp 0)),23,none⟩,
 ⟨(some 7),(.call ⟨(.builtin .len), #[(.tmp 6)], #[23]⟩),3,none⟩,
 ⟨(some 8),(.move (.tmp 1)),23,none⟩,
 ⟨(some 9),(.call ⟨(.builtin .len), #[(.tmp 8)], #[23]⟩),3,none⟩,
 ⟨(some 10),(.binOp .neq 3 (.tmp 7) (.tmp 9) 3),4,none⟩])
 (.cond (.tmp 10)
 (.seq
 (.ops [
 ⟨(some 4),(.assign (.const (.bool false))),4,none⟩])
 .ret)
 .skip))
 (.seq
 (.seq
 (.ops [
 ⟨(some 5),(.assign (.const (.int .i64 0))),3,none⟩])
 (.block 0
 mO))
 (.seq
 (.ops [
 ⟨(some 4),(.assign (.const (.bool true))),4,none⟩])
 .ret)))
theorem A1i:Try.f14.body.map (Bh lends)=some k14:=by kernel_rfl
theorem AGB:CB Try.f14 2=true:=by kernel_rfl
theorem NF{a l:List D}{r:D×List D}(h:Bq Y.env k14 (fin AX l.length [ResultVar.tmp 4] r) (entry a l))(ha:a.length=2):Y.call 14 a l=some r:=
 AU (Y:=Y) rfl Try.func14 (ha▸AGB) A1i h
def EX(a:List Int)(b:List Int)(i:Int)(s:St):Prop:=s.v 0=D.sl 3 (AP (D.int .i64) a)∧s.v 1=D.sl 3 (AP (D.int .i64) b)∧s.v 5=D.int .i64 i
def Fh(a:List Int)(b:List Int)(r:Unit⊕Unit)(ex:Ex)(s:St):Prop:=match r with
 | .inl q=>ex= .ret∧s.v 4=D.bool false
 | .inr q=>ex= .exit 0
theorem Sv(a:List Int)(b:List Int){v:Int}{s:St}{r:Unit⊕Unit}(h:Kw a b v=some r)(hM:EX a b v s):Bq Y.env mO (Fh a b r) s:=by
 unfold Kw at h
 refine BN (c:=WY) (fun v=>Fg a b v) (fun v s=>EX a b v s) (Fh a b) ?_ h hM
 clear h hM s v r
 intro i s o hM h
 unfold Fg at h
 unfold EX at hM
 obtain⟨m0,m1,m2⟩:=hM
 unfold WY
 by_cases e2:i<(a.length:Int)
 ·rw [if_pos e2]at h
  obtain⟨e3,h⟩:=BF h
  obtain⟨e4,h⟩:=BF h
  by_cases e5:(a.getD i.toNat default)=(b.getD i.toNat default)
  ·rw [if_pos e5]at h
   obtain rfl:=Option.some.inj h
   simp (maxDischargeDepth:=9) only [↓AO,AB,Ac,AJ,AQ,↓reduceIte,Nat.reduceEqDiff,Nat.reduceLT,m0,m1,m2,e2,e3.1,e3.2,e4.2,decide_eq_true e5,EX,Ik]
  ·rw [if_neg e5]at h
   obtain rfl:=Option.some.inj h
   simp (maxDischargeDepth:=9) only [↓AO,AB,Ac,AJ,AQ,↓reduceIte,Nat.reduceEqDiff,Nat.reduceLT,m0,m1,m2,e2,e3.1,e3.2,e4.2,e5,EX,Fh,Qp]
 ·rw [if_neg e2]at h
  obtain rfl:=Option.some.inj h
  simp (maxDischargeDepth:=9) only [↓AO,AB,Ac,AQ,↓reduceIte,Nat.reduceEqDiff,Nat.reduceLT,m0,m2,e2,EX,Fh,KF]
theorem UJ(a:List Int)(b:List Int){r:Bool}(h:Oy a b=some r):Y.call 14 [D.sl 3 (AP (D.int .i64) a),D.sl 3 (AP (D.int .i64) b)] []=some (D.bool r,[]):=by
 refine NF ?_ rfl
 unfold k14
 unfold Oy at h
 by_cases e1:(a.length:Int)=(b.length:Int)
 ·rw [if_pos e1]at h
  obtain⟨FD,hl3,h⟩:=Ao h
  try dsimp only at h
  simp (maxDischargeDepth:=9) only [↓AO,AB,Ac,AJ,AQ,↓reduceIte,Nat.reduceEqDiff,Nat.reduceLT,decide_eq_true e1]
  refine Ay (Sv a b hl3 ?_) ?_
  ·simp (maxDischargeDepth:=9) only [AB,AJ,↓reduceIte,Nat.reduceEqDiff,Nat.reduceLT,EX]
  ·intro ex3 s3 hX3
   rcases FD with q3_ | q3_
   ·unfold Fh at hX3
    dsimp only at hX3 h
    obtain⟨rfl,n3_0⟩:=hX3
    obtain rfl:=Option.some.inj h
    simp (maxDischargeDepth:=9) only [↓AO,AB,AJ,↓reduceIte,n3_0]
   ·unfold Fh at hX3
    dsimp only at hX3 h
    obtain rfl:=hX3
    obtain rfl:=Option.some.inj h
    simp (maxDischargeDepth:=9) only [↓AO,AB,AJ,AQ,↓reduceIte,Nat.reduceEqDiff,Nat.reduceLT]
 ·rw [if_neg e1]at h
  obtain rfl:=Option.some.inj h
  simp (maxDischargeDepth:=9) only [↓AO,AB,Ac,AJ,AQ,↓reduceIte,Nat.reduceEqDiff,Nat.reduceLT,e1]
theorem ZK(a b:List Int)(ha:a.length<1099511627776):Oy a b=some (decide (a=b)):=by
 unfold Oy Kw
 by_cases hl:a.length=b.length
 ·rw [if_pos (by omega)]
  have key:=IZ (fun v=>Fg a b v) (fun i=>(i:Int)) a.length (fun i=>decide (a.getD i default=b.getD i default)) (.inl ()) (.inr ()) ?_ ?_
  ·simp only [Int.natCast_zero]at key
   rw [key,Sq a b hl]
   by_cases he:a=b<;>simp [he]
  ·intro i hi
   simp only [Fg]
   rw [if_pos (BV hi),BL (Ew hi),BL (Ew (by omega)),Int.toNat_natCast,KH i (by omega)]<;>simp only [decide_eq_true_eq]
  ·simp only [Fg]
   rw [if_neg (Ag _)]
 ·rw [if_neg (by omega)]
  have: ¬a=b:=fun e=>hl (by rw [e])
  simp [this]
theorem Bj(a:List Int)(b:List Int)(h0:a.length<1099511627776):Y.call 14 [D.sl 3 (AP (D.int .i64) a),D.sl 3 (AP (D.int .i64) b)] []=some (D.bool (decide (a=b)),[]):=UJ a b (ZK a b h0)
def GY(left n:Int):Int:=if left-n<0 then-1 else left-n
theorem KI(left n:Int):GY left n= -1∨(GY left n=left-n∧0≤left-n):=by unfold GY;split<;>omega
def BK(l:List (List Int)):Int:=(l.map fun xs=>(xs.length:Int)).sum
theorem eF:BK []=0:=rfl
theorem NG(x:List Int)(l:List (List Int)):BK (x::l)=x.length+BK l:=rfl
theorem Dw(l:List (List Int)):0≤BK l:=by
 induction l with
 | nil=>rw [eF];omega
 | cons x l ih=>rw [NG];omega
theorem qp{l:List (List Int)}{x:List Int}(h:x∈l):(x.length:Int)≤BK l:=by
 induction l with
 | nil=>cases h
 | cons y l ih=>
  rw [NG]
  have:=Dw l
  rcases List.mem_cons.1 h with rfl | h
  ·omega
  ·have:=ih h;omega
noncomputable def Oz(a:List Int)(left:Int):Option (Int):=
 if(IntKind.i64.wrap (left-(a.length:Int)))<0 then
  some (-1)
 else
  some (IntKind.i64.wrap (left-(a.length:Int)))
def k32:SC:=
 .seq
 (.ops [
 ⟨(some 4),(.assign (.const (.int .i64 0))),3,none⟩])
 (.seq
 (.ops [
 ⟨(some 5),(.move (.tmp 1)),3,none⟩,
 ⟨(some 6),(.move (.tmp 0)),23,none⟩,
 ⟨(some 7),(.call ⟨(.builtin .len), #[(.tmp 6)], #[23]⟩),3,none⟩,
 ⟨(some 8),(.binOp .sub 3 (.tmp 5) (.tmp 7) 3),3,none⟩,
 ⟨(some 1),(.assign (.tmp 8)),3,none⟩])
 (.seq
 (.seq
 (.ops [
 ⟨(some 9),(.move (.tmp 1)),3,none⟩,
 ⟨(some 10),(.binOp .lss 3 (.tmp 9) (.const (.int .i64 0)) 3),4,none⟩])
 (.cond (.tmp 10)
 (.seq
 (.ops [
 ⟨(some 4),(.assign (.const (.int .i64 (-1)))),3,none⟩])
 .ret)
 .skip))
 (.seq
 (.ops [
 ⟨(some 11),(.move (.tmp 1)),3,none⟩,
 ⟨(some 4),(.assign (.tmp 11)),3,none⟩])
 .ret)))
theorem A1j:Try.f32.body.map (Bh lends)=some k32:=by kernel_rfl
theorem AGD:CB Try.f32 2=true:=by kernel_rfl
theorem c32{a l:List D}{r:D×List D}(h:Bq Y.env k32 (fin AX l.length [ResultVar.tmp 4] r) (entry a l))(ha:a.length=2):Y.call 32 a l=some r:=
 AU (Y:=Y) rfl Try.func32 (ha▸AGD) A1j h
theorem UK(a:List Int)(left:Int){r:Int}(h:Oz a left=some r):Y.call 32 [D.sl 3 (AP (D.int .i64) a),D.int .i64 left] []=some (D.int .i64 r,[]):=by
 refine c32 ?_ rfl
 unfold k32
 unfold Oz at h
 by_cases e1:(IntKind.i64.wrap (left-(a.length:Int)))<0
 ·rw [if_pos e1]at h
  obtain rfl:=Option.some.inj h
  simp (maxDischargeDepth:=9) only [↓AO,AB,Ac,AJ,AQ,↓reduceIte,Nat.reduceEqDiff,Nat.reduceLT,Int.reduceNeg,e1]
 ·rw [if_neg e1]at h
  obtain rfl:=Option.some.inj h
  simp (maxDischargeDepth:=9) only [↓AO,AB,Ac,AJ,AQ,↓reduceIte,Nat.reduceEqDiff,Nat.reduceLT,Int.reduceNeg,e1]
theorem ZL(a:List Int)(left:Int)(ha:a.length<9223372036854775808)(hl:0≤left∧left≤1048576):Oz a left=some (GY left a.length):=by
 unfold Oz GY
 rw [LP _ (by omega)]
 split<;>rfl
theorem Qb(a:List Int)(left:Int)(h0:a.length<9223372036854775808)(h1:0≤left∧left≤1048576):Y.call 32 [D.sl 3 (AP (D.int .i64) a),D.int .i64 left] []=some (D.int .i64 (GY left a.length),[]):=UK a left (ZL a left h0 h1)
def zQ:Int→List (List Int)→Int
 | left,[]=>left
 | left,x::l=>if left-x.length<0 then-1 else zQ (left-x.length) l
theorem A1l(l:List (List Int)): ∀(left:Int),0≤left→zQ left l=GY left (BK l):=by
 induction l with
 | nil=>intro left h;unfold zQ GY;rw [eF,if_neg (by omega)];omega
 | cons x l ih=>
  intro left h
  have:=Dw l
  unfold zQ
  by_cases hq:left-x.length<0
  ·rw [if_pos hq];unfold GY;rw [NG,if_pos (by omega)]
  ·rw [if_neg hq,ih _ (by omega)]
   unfold GY
   rw [NG]
   by_cases hr:left-x.length-BK l<0
   ·rw [if_pos hr,if_pos (by omega)]
   ·rw [if_neg hr,if_neg (by omega)];omega
theorem WZ{α:Type}(a b:List α)(x:α):(a.length:Int)<((a++x::b).length:Int):=by rw [List.length_append,List.length_cons];omega
theorem Wd{α:Type}(a b:List α)(x:α):0≤(a.length:Int)∧(a.length:Int).toNat<(a++x::b).length:=by rw [List.length_append,List.length_cons];omega
theorem We{α:Type}(a:List α): ¬(a.length:Int)<((a++[]).length:Int):=by rw [List.append_nil];omega
def AAO(l:List (List Int)):Prop:=l.length<9223372036854775808∧ ∀x∈l,x.length<9223372036854775808
instance (l:List (List Int)):Decidable (AAO l):=by unfold AAO;infer_instance
def upto(k:Int)(n:Nat):List Int:=(List.range n).map fun(i:Nat)=>k+i
theorem JZ(k:Int)(n:Nat):(upto k n).length=n:=by simp [upto]
theorem mP(xs:List Int)(k:Int)(i:Nat)(h:i<xs.length):(upto k i++xs.drop i).set i (k+i)=upto k (i+1)++xs.drop (i+1):=by
 rw [List.set_append_right _ _ (by simp [JZ]),JZ,Nat.sub_self,List.drop_eq_getElem_cons h,List.set_cons_zero]
 simp [upto,List.range_succ]
noncomputable def E8(k:Int)(k1:Int)(i:Int)(BC:List Int):Option ((Int×Int×(List Int))⊕(Int×(List Int))):=
 if i<(BC.length:Int)then
  ck (0≤i∧i.toNat<BC.length)<|
  some (Sum.inl (IntKind.i64.wrap (k1+1),IntKind.i64.wrap (i+1),(BC.set i.toNat k1)))
 else
  some (Sum.inr (k1,BC))
noncomputable def JA(k:Int)(v:Int×Int×(List Int)):Option (Int×(List Int)):=Hy (fun v=>E8 k v.1 v.2.1 v.2.2) v
noncomputable def MB(a:List Int)(k:Int):Option (Int×(List Int)):=
 (JA k (k,0,a)).bind fun Be=>
 some (Be.1,Be.2)
def Wh:SC:=
 .seq
 (.seq
 (.ops [
 ⟨(some 6),(.move (.tmp 5)),3,none⟩,
 ⟨(some 7),(.move (.tmp 0)),23,none⟩,
 ⟨(some 8),(.call ⟨(.builtin .len), #[(.tmp 7)], #[23]⟩),3,none⟩,
 ⟨(some 9),(.binOp .lss 3 (.tmp 6) (.tmp 8) 3),4,none⟩])
 (.cond (.tmp 9)
 .skip
 (.exit 0)))
 (.seq
 (.block 1
 (.seq
 (.ops [
 ⟨(some 12),(.move (.tmp 0)),23,none⟩,
 ⟨(some 13),(.move (.tmp 5)),3,none⟩,
 ⟨(some 14),(.move (.tmp 1)),3,none⟩,
 ⟨(some 15),(.indexAddr 23 (.tmp 12) (.tmp 13)),0,none⟩,
 ⟨none,(.store 3 (.tmp 15) (.tmp 14)),0,none⟩])
 (.ops [
 ⟨(some 16),(.move (.tmp 1)),3,none⟩,
 ⟨(some 17),(.binOp .add 3 (.tmp 16) (.const (.int .i64 1)) 3),3,none⟩,
 ⟨(some 1),(.assign (.tmp 17)),3,none⟩])))
 (.ops [
 ⟨(some 10),(.move (.tmp 5)),3,none⟩,
 ⟨(some 11),(.binOp .add 3 (.tmp 10) (.const (.int .i64 1)) 3),3,none⟩,
 ⟨(some 5),(.assign (.tmp 11)),3,none⟩]))
def mQ:SC:= .loop Wh
def k18:SC:=
 .seq
 (.ops [
 ⟨(some 4),(.assign (.const (.int .i64 0))),3,none⟩])
 (.seq
 (.seq
 (.ops [
 ⟨(some 5),(.assign (.const (.int .i64 0))),3,none⟩])
 (.block 0
 mQ))
 (.seq
 (.ops [
 ⟨(some 18),(.move (.tmp 1)),3,none⟩,
 ⟨(some 4),(.assign (.tmp 18)),3,none⟩])
 .ret))
theorem A1m:Try.f18.body.map (Bh lends)=some k18:=by kernel_rfl
theorem AGF:CB Try.f18 2=true:=by kernel_rfl
theorem MC{a l:List D}{r:D×List D}(h:Bq Y.env k18 (fin AX l.length [ResultVar.tmp 4] r) (entry a l))(ha:a.length=2):Y.call 18 a l=some r:=
 AU (Y:=Y) rfl Try.func18 (ha▸AGF) A1m h
def E9(k:Int)(k1:Int)(i:Int)(BC:List Int)(s:St):Prop:=(∃w_,s.v 0=D.vw [100000] (s.k 100000) w_)∧s.v 1=D.int .i64 k1∧s.v 5=D.int .i64 i∧s.v 100000=D.own 3 (AP (D.int .i64) BC)
def IC(k:Int)(r:Int×(List Int))(ex:Ex)(s:St):Prop:=ex= .exit 0∧s.v 1=D.int .i64 r.1∧s.v 100000=D.own 3 (AP (D.int .i64) r.2)
theorem Pp(k:Int){v:Int×Int×(List Int)}{s:St}{r:Int×(List Int)}(h:JA k v=some r)(hM:E9 k v.1 v.2.1 v.2.2 s):Bq Y.env mQ (IC k r) s:=by
 unfold JA at h
 refine BN (c:=Wh) (fun v=>E8 k v.1 v.2.1 v.2.2) (fun v s=>E9 k v.1 v.2.1 v.2.2 s) (IC k) ?_ h hM
 clear h hM s v r
 intro v s o hM h
 obtain⟨k1,i,BC⟩:=v
 dsimp only at h hM
 unfold E8 at h
 unfold E9 at hM
 obtain⟨⟨w0_,m0⟩,m1,m2,m3⟩:=hM
 unfold Wh
 by_cases e1:i<(BC.length:Int)
 ·rw [if_pos e1]at h
  obtain⟨e2,h⟩:=BF h
  obtain rfl:=Option.some.inj h
  simp (maxDischargeDepth:=9) only [↓AO,AB,Ac,AJ,AQ,↓reduceIte,Nat.reduceEqDiff,Nat.reduceLT,m0,m1,m2,m3,e1,e2.1,e2.2,E9,Ik]<;>(repeat' apply And.intro)<;>first | rfl | exact⟨_,rfl⟩ | exact⟨_,_,rfl⟩ | simp [AP,Bu]
 ·rw [if_neg e1]at h
  obtain rfl:=Option.some.inj h
  simp (maxDischargeDepth:=9) only [↓AO,AB,Ac,AJ,AQ,↓reduceIte,Nat.reduceEqDiff,Nat.reduceLT,m0,m1,m2,m3,e1,E9,IC,KF]
theorem Qs(a:List Int)(k:Int){r:Int×(List Int)}(h:MB a k=some r):Y.call 18 [D.vw [100000] 0 0,D.int .i64 k] [D.own 3 (AP (D.int .i64) a)]=some (D.int .i64 r.1,[D.own 3 (AP (D.int .i64) r.2)]):=by
 refine MC ?_ rfl
 unfold k18
 unfold MB at h
 obtain⟨Be,hl2,h⟩:=Ao h
 try dsimp only at h
 simp (maxDischargeDepth:=9) only [↓AO,AB,AJ,AQ,↓reduceIte,Nat.reduceEqDiff,Nat.reduceLT,Nat.reduceAdd]
 refine Ay (Pp k hl2 ?_) ?_
 ·simp (maxDischargeDepth:=9) only [AB,AJ,↓reduceIte,Nat.reduceEqDiff,Nat.reduceLT,Nat.reduceSub,E9]<;>(repeat' apply And.intro)<;>first | rfl | exact⟨_,rfl⟩ | exact⟨_,_,rfl⟩ | simp [AP,Bu]
 ·intro ex2 s2 hX2
  unfold IC at hX2
  obtain⟨rfl,n2_0,n2_1⟩:=hX2
  obtain rfl:=Option.some.inj h
  simp (maxDischargeDepth:=9) only [↓AO,AB,Ac,AJ,↓reduceIte,Nat.reduceEqDiff,Nat.reduceLT,n2_0,n2_1]
theorem UL(a:List Int)(k:Int)(ha:a.length<1099511627776)(hk:0≤k∧k<1099511627776):MB a k=some (k+a.length,upto k a.length):=by
 have key:=Bd (fun v=>E8 k v.1 v.2.1 v.2.2) (fun i=>(k+i,(i:Int),upto k i++a.drop i)) a.length (k+a.length,upto k a.length) ?_ ?_
 ·unfold MB JA
  have e0:upto k 0=[]:=rfl
  simp only [Int.natCast_zero,Int.add_zero,List.drop_zero,e0,List.nil_append]at key
  rw [key];rfl
 ·intro i hi
  simp only [E8]
  have el:(upto k i++a.drop i).length=a.length:=by simp [JZ];omega
  rw [el,if_pos (BV hi),BL (Ew hi),Int.toNat_natCast,mP a k i hi,KH i (by omega),LP _ (by omega)]
  rw [show k+(i:Int)+1=k+((i+1:Nat):Int) by omega]
 ·simp only [E8]
  have el:(upto k a.length++a.drop a.length).length=a.length:=by simp [JZ]
  rw [el,if_neg (Ag _)];simp
theorem Di(a:List Int)(k:Int)(h0:a.length<1099511627776)(h1:0≤k∧k<1099511627776):Y.call 18 [D.vw [100000] 0 0,D.int .i64 k] [D.own 3 (AP (D.int .i64) a)]=some (D.int .i64 (k+a.length),[D.own 3 (AP (D.int .i64) (upto k a.length))]):=Qs a k (UL a k h0 h1)
def AAP:Int→List (List Int)→List (List Int)
 | _,[]=>[]
 | k,x::l=>upto k x.length::AAP (k+x.length) l
def Du:Int→List Int→Int
 | k,[]=>k
 | k,x::l=>if x=k then Du (k+1) l else-1
noncomputable def EA(a:List Int)(k1:Int)(i:Int):Option ((Int×Int)⊕(Unit⊕Int)):=
 if i<(a.length:Int)then
  ck (0≤i∧i.toNat<a.length)<|
  if(a.getD i.toNat default)=k1 then
   some (Sum.inl (IntKind.i64.wrap (k1+1),IntKind.i64.wrap (i+1)))
  else
   some (Sum.inr (Sum.inl ()))
 else
  some (Sum.inr (Sum.inr k1))
noncomputable def EY(a:List Int)(v:Int×Int):Option (Unit⊕Int):=Hy (fun v=>EA a v.1 v.2) v
noncomputable def ME(a:List Int)(k:Int):Option (Int):=
 (EY a (k,0)).bind fun Be=>
 match Be with
 | .inl q2_=>
  some (-1)
 | .inr q2_=>
  some q2_
def Wi:SC:=
 .seq
 (.seq
 (.ops [
 ⟨(some 6),(.move (.tmp 5)),3,none⟩,
 ⟨(some 7),(.move (.tmp 0)),23,none⟩,
 ⟨(some 8),(.call ⟨(.builtin .len), #[(.tmp 7)], #[23]⟩),3,none⟩,
 ⟨(some 9),(.binOp .lss 3 (.tmp 6) (.tmp 8) 3),4,none⟩])
 (.cond (.tmp 9)
 .skip
 (.exit 0)))
 (.seq
 (.block 1
 (.seq
 (.seq
 (.ops [
 ⟨(some 12),(.move (.tmp 0)),23,none⟩,
 ⟨(some 13),(.move (.tmp 5)),3,none⟩,
 ⟨(some 14),(.indexAddr 23 (.tmp 12) (.tmp 13)),0,none⟩,
 ⟨(some 15),(.load 3 (.tmp 14)),3,none⟩,
 ⟨(some 16),(.move (.tmp 1)),3,none⟩,
 ⟨(some 17),(.binOp .neq 3 (.tmp 15) (.tmp 16) 3),4,none⟩])
 (.cond (.tmp 17)
 (.seq
 (.ops [
 ⟨(some 4),(.assign (.const (.int .i64 (-1)))),3,none⟩])
 .ret)
 .skip))
 (.ops [
 ⟨(some 18),(.move (.tmp 1)),3,none⟩,
 ⟨(some 19),(.binOp .add 3 (.tmp 18) (.const (.int .i64 1)) 3),3,none⟩,
 ⟨(some 1),(.assign (.tmp 19)),3,none⟩])))
 (.ops [
 ⟨(some 10),(.move (.tmp 5)),3,none⟩,
 ⟨(some 11),(.binOp .add 3 (.tmp 10) (.const (.int .i64 1)) 3),3,none⟩,
 ⟨(some 5),(.assign (.tmp 11)),3,none⟩]))
def mR:SC:= .loop Wi
def k20:SC:=
 .seq
 (.ops [
 ⟨(some 4),(.assign (.const (.int .i64 0))),3,none⟩])
 (.seq
 (.seq
 (.ops [
 ⟨(some 5),(.assign (.const (.int .i64 0))),3,none⟩])
 (.block 0
 mR))
 (.seq
 (.ops [
 ⟨(some 20),(.move (.tmp 1)),3,none⟩,
 ⟨(some 4),(.assign (.tmp 20)),3,none⟩])
 .ret))
theorem A1n:Try.f20.body.map (Bh lends)=some k20:=by kernel_rfl
theorem AGH:CB Try.f20 2=true:=by kernel_rfl
theorem c20{a l:List D}{r:D×List D}(h:Bq Y.env k20 (fin AX l.length [ResultVar.tmp 4] r) (entry a l))(ha:a.length=2):Y.call 20 a l=some r:=
 AU (Y:=Y) rfl Try.func20 (ha▸AGH) A1n h
def DX(a:List Int)(k1:Int)(i:Int)(s:St):Prop:=s.v 0=D.sl 3 (AP (D.int .i64) a)∧s.v 1=D.int .i64 k1∧s.v 5=D.int .i64 i
def EB(a:List Int)(r:Unit⊕Int)(ex:Ex)(s:St):Prop:=match r with
 | .inl q=>ex= .ret∧s.v 4=D.int .i64 (-1)
 | .inr q=>ex= .exit 0∧s.v 1=D.int .i64 q
theorem Pq(a:List Int){v:Int×Int}{s:St}{r:Unit⊕Int}(h:EY a v=some r)(hM:DX a v.1 v.2 s):Bq Y.env mR (EB a r) s:=by
 unfold EY at h
 refine BN (c:=Wi) (fun v=>EA a v.1 v.2) (fun v s=>DX a v.1 v.2 s) (EB a) ?_ h hM
 clear h hM s v r
 intro v s o hM h
 obtain⟨k1,i⟩:=v
 dsimp only at h hM
 unfold EA at h
 unfold DX at hM
 obtain⟨m0,m1,m2⟩:=hM
 unfold Wi
 by_cases e1:i<(a.length:Int)
 ·rw [if_pos e1]at h
  obtain⟨e2,h⟩:=BF h
  by_cases e3:(a.getD i.toNat default)=k1
  ·rw [if_pos e3]at h
   obtain rfl:=Option.some.inj h
   simp (maxDischargeDepth:=9) only [↓AO,AB,Ac,AJ,AQ,↓reduceIte,Nat.reduceEqDiff,Nat.reduceLT,Int.reduceNeg,m0,m1,m2,e1,e2.1,e2.2,decide_eq_true e3,DX,Ik]
  ·rw [if_neg e3]at h
   obtain rfl:=Option.some.inj h
   simp (maxDischargeDepth:=9) only [↓AO,AB,Ac,AJ,AQ,↓reduceIte,Nat.reduceEqDiff,Nat.reduceLT,Int.reduceNeg,m0,m1,m2,e1,e2.1,e2.2,e3,DX,EB,Qp]
 ·rw [if_neg e1]at h
  obtain rfl:=Option.some.inj h
  simp (maxDischargeDepth:=9) only [↓AO,AB,Ac,AQ,↓reduceIte,Nat.reduceEqDiff,Nat.reduceLT,Int.reduceNeg,m0,m1,m2,e1,DX,EB,KF]
theorem Qt(a:List Int)(k:Int){r:Int}(h:ME a k=some r):Y.call 20 [D.sl 3 (AP (D.int .i64) a),D.int .i64 k] []=some (D.int .i64 r,[]):=by
 refine c20 ?_ rfl
 unfold k20
 unfold ME at h
 obtain⟨Be,hl2,h⟩:=Ao h
 try dsimp only at h
 simp (maxDischargeDepth:=9) only [↓AO,AB,AJ,AQ,↓reduceIte,Nat.reduceEqDiff,Nat.reduceLT]
 refine Ay (Pq a hl2 ?_) ?_
 ·simp (maxDischargeDepth:=9) only [AB,AJ,↓reduceIte,Nat.reduceEqDiff,Nat.reduceLT,DX]
 ·intro ex2 s2 hX2
  rcases Be with q2_ | q2_
  ·unfold EB at hX2
   dsimp only at hX2 h
   obtain⟨rfl,n2_0⟩:=hX2
   obtain rfl:=Option.some.inj h
   simp (maxDischargeDepth:=9) only [↓AO,AB,AJ,↓reduceIte,Int.reduceNeg,n2_0]
  ·unfold EB at hX2
   dsimp only at hX2 h
   obtain⟨rfl,n2_0⟩:=hX2
   obtain rfl:=Option.some.inj h
   simp (maxDischargeDepth:=9) only [↓AO,AB,AJ,↓reduceIte,Nat.reduceEqDiff,Nat.reduceLT,n2_0]
theorem Ps: ∀(b a:List Int) (k:Int),a.length+b.length<1099511627776→0≤k→k+b.length<1099511627776→
  EY (a++b) (k,(a.length:Int))=some (if Du k b= -1 then .inl ()else .inr (Du k b)):=by
 intro b
 induction b with
 | nil=>
  intro a k hab hk hkt
  unfold EY
  rw [IX (r:=Sum.inr k)]
  ·unfold Du;rw [if_neg (by omega)]
  ·simp only [EA];rw [if_neg (We _)]
 | cons x b ih=>
  intro a k hab hk hkt
  simp only [List.length_cons]at hab hkt
  have eg:(a++x::b).getD (a.length:Int).toNat default=x:=by rw [Int.toNat_natCast];exact KW a (x::b) a.length rfl (by simp)
  unfold Du
  by_cases hq:x=k
  ·rw [if_pos hq]
   have:=ih (a++[x]) (k+1) (by simp;omega) (by omega) (by omega)
   unfold EY at this ⊢
   rw [Ku (s':=(k+1,((a++[x]).length:Int)))]
   ·rw [show a++x::b=a++[x]++b by simp];exact this
   ·simp only [EA]
    rw [if_pos (WZ ..),BL (Wd ..),eg,if_pos hq,KH _ (by omega),LP _ (by omega)];simp
  ·rw [if_neg hq]
   unfold EY
   rw [IX (r:=Sum.inl ())]
   ·rfl
   ·simp only [EA]
    rw [if_pos (WZ ..),BL (Wd ..),eg,if_neg hq]
theorem UM(a:List Int)(k:Int)(ha:a.length<1099511627776)(hk:0≤k∧k+a.length<1099511627776):ME a k=some (Du k a):=by
 unfold ME
 have:=Ps a [] k (by simpa using ha) hk.1 hk.2
 simp only [List.length_nil,List.nil_append,Int.natCast_zero]at this
 rw [this,Option.bind_some]
 by_cases h:Du k a= -1
 ·rw [if_pos h,h]
 ·rw [if_neg h]
theorem Bf(a:List Int)(k:Int)(h0:a.length<1099511627776)(h1:0≤k∧k+a.length<1099511627776):Y.call 20 [D.sl 3 (AP (D.int .i64) a),D.int .i64 k] []=some (D.int .i64 (Du k a),[]):=Qt a k (UM a k h0 h1)
theorem NY(n:Nat): ∀k,Du k (upto k n)=k+n:=by
 induction n with
 | zero=>intro k;simp [upto,Du]
 | succ n ih=>
  intro k
  have e:upto k (n+1)=k::upto (k+1) n:=by
   simp only [upto,List.range_succ_eq_map,List.map_cons,List.map_map]
   congr 1
   ·simp
   ·apply List.map_congr_left;intro i _;simp;omega
  rw [e,Du,if_pos rfl,ih];omega
end Go.Proofs.Ytipfckompmhljaa
