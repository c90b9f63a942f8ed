/- Membership of a number, as a plain function. Conditions: the list is short. -/
import Derived.Test.YtipfckompmhljaaL6
import Derived.Test.YtipfckompmhljaaIsP
namespace Go.Proofs.Ytipfckompmhljaa
open Go Dv
set_option linter.unusedSimpArgs false
set_option linter.unusedVariables false
set_option maxRecDepth 100000
set_option maxHeartbeats 4000000
noncomputable def Gz(l:List Int)(n_:Int)(NZ:Int):Option ((Int)⊕(Unit⊕Unit)):=
 if NZ<(l.length:Int)then
  ck (0≤NZ∧NZ.toNat<l.length)<|
  if(l.getD NZ.toNat default)=n_ then
   some (Sum.inr (Sum.inl ()))
  else
   some (Sum.inl (IntKind.i64.wrap (NZ+1)))
 else
  some (Sum.inr (Sum.inr ()))
noncomputable def MI(l:List Int)(n_:Int)(v:Int):Option (Unit⊕Unit):=Hy (fun v=>Gz l n_ v) v
noncomputable def RP(l:List Int)(n_:Int):Option (Bool):=
 (MI l n_ 0).bind fun Be=>
 match Be with
 | .inl q2_=>
  some true
 | .inr q2_=>
  some false
def Wp:SC:=
 .seq
 (.ops [
 ⟨(some 10),(.binOp .lss 3 (.tmp 9) (.tmp 8) 3),0,none⟩])
 (.seq
 (.cond (.tmp 10)
 .skip
 (.exit 0))
 (.seq
 (.block 1
 (.seq
 (.ops [
 ⟨(some 11),(.indexAddr 23 (.tmp 7) (.tmp 9)),0,none⟩,
 ⟨(some 12),(.load 3 (.tmp 11)),3,none⟩,
 ⟨(some 6),(.assign (.tmp 12)),3,none⟩])
 (.seq
 (.ops [
 ⟨(some 13),(.move (.tmp 6)),3,none⟩,
 ⟨(some 14),(.move (.tmp 1)),3,none⟩,
 ⟨(some 15),(.binOp .eql 3 (.tmp 13) (.tmp 14) 3),4,none⟩])
 (.cond (.tmp 15)
 (.seq
 (.ops [
 ⟨(some 4),(.assign (.const (.bool true))),4,none⟩])
 .ret)
 .skip))))
 (.ops [
 ⟨(some 16),(.binOp .add 3 (.tmp 9) (.const (.int .i64 1)) 3),3,none⟩,
 ⟨(some 9),(.move (.tmp 16)),3,none⟩])))
def mX:SC:= .loop Wp
def k92:SC:=
 .seq
 (.ops [
 ⟨(some 4),(.assign (.const (.bool false))),4,none⟩])
 (.seq
 (.seq
 (.ops [
 ⟨(some 7),(.move (.tmp 0)),23,none⟩,
 ⟨(some 8),(.call ⟨(.builtin .len), #[(.tmp 7)], #[23]⟩),3,none⟩,
 ⟨(some 9),(.move (.const (.int .i64 0))),3,none⟩])
 (.block 0
 mX))
 (.seq
 (.ops [
 ⟨(some 4),(.assign (.const (.bool false))),4,none⟩])
 .ret))
theorem A1y:Try.f92.body.map (Bh lends)=some k92:=by kernel_rfl
theorem AGY:CB Try.f92 2=true:=by kernel_rfl
theorem c92{a l:List D}{r:D×List D}(h:Bq Y.env k92 (fin AX l.length [ResultVar.tmp 4] r) (entry a l))(ha:a.length=2):Y.call 92 a l=some r:=
 AU (Y:=Y) rfl Try.func92 (ha▸AGY) A1y h
def FK(l:List Int)(n_:Int)(NZ:Int)(s:St):Prop:=s.v 1=D.int .i64 n_∧s.v 7=D.sl 3 (AP (D.int .i64) l)∧s.v 8=D.int .i64 (l.length:Int)∧s.v 9=D.int .i64 NZ
def H5(l:List Int)(n_:Int)(r:Unit⊕Unit)(ex:Ex)(s:St):Prop:=match r with
 | .inl q=>ex= .ret∧s.v 4=D.bool true
 | .inr q=>ex= .exit 0
theorem UR(l:List Int)(n_:Int){v:Int}{s:St}{r:Unit⊕Unit}(h:MI l n_ v=some r)(hM:FK l n_ v s):Bq Y.env mX (H5 l n_ r) s:=by
 unfold MI at h
 refine BN (c:=Wp) (fun v=>Gz l n_ v) (fun v s=>FK l n_ v s) (H5 l n_) ?_ h hM
 clear h hM s v r
 intro NZ s o hM h
 unfold Gz at h
 unfold FK at hM
 obtain⟨m0,m1,m2,m3⟩:=hM
 unfold Wp
 by_cases e1:NZ<(l.length:Int)
 ·rw [if_pos e1]at h
  obtain⟨e2,h⟩:=BF h
  by_cases e3:(l.getD NZ.toNat default)=n_
  ·rw [if_pos e3]at h
   obtain rfl:=Option.some.inj h
   simp (maxDischargeDepth:=9) only [↓AO,AB,Ac,AJ,AQ,↓reduceIte,Nat.reduceEqDiff,Nat.reduceLT,m0,m1,m2,m3,e1,e2.1,e2.2,decide_eq_true e3,FK,H5,Qp]
  ·rw [if_neg e3]at h
   obtain rfl:=Option.some.inj h
   simp (maxDischargeDepth:=9) only [↓AO,AB,Ac,AJ,AQ,↓reduceIte,Nat.reduceEqDiff,Nat.reduceLT,m0,m1,m2,m3,e1,e2.1,e2.2,e3,FK,Ik]
 ·rw [if_neg e1]at h
  obtain rfl:=Option.some.inj h
  simp (maxDischargeDepth:=9) only [↓AO,AB,AQ,↓reduceIte,Nat.reduceLT,m2,m3,e1,FK,H5,KF]
theorem Wq(l:List Int)(n_:Int){r:Bool}(h:RP l n_=some r):Y.call 92 [D.sl 3 (AP (D.int .i64) l),D.int .i64 n_] []=some (D.bool r,[]):=by
 refine c92 ?_ rfl
 unfold k92
 unfold RP at h
 obtain⟨Be,hl2,h⟩:=Ao h
 try dsimp only at h
 simp (maxDischargeDepth:=9) only [↓AO,AB,Ac,AJ,AQ,↓reduceIte,Nat.reduceEqDiff,Nat.reduceLT]
 refine Ay (UR l n_ hl2 ?_) ?_
 ·simp (maxDischargeDepth:=9) only [AB,AJ,↓reduceIte,Nat.reduceEqDiff,Nat.reduceLT,FK]
 ·intro ex2 s2 hX2
  rcases Be with q2_ | q2_
  ·unfold H5 at hX2
   dsimp only at hX2 h
   obtain⟨rfl,n2_0⟩:=hX2
   obtain rfl:=Option.some.inj h
   simp (maxDischargeDepth:=9) only [↓AO,AB,AJ,↓reduceIte,n2_0]
  ·unfold H5 at hX2
   dsimp only at hX2 h
   obtain rfl:=hX2
   obtain rfl:=Option.some.inj h
   simp (maxDischargeDepth:=9) only [↓AO,AB,AJ,AQ,↓reduceIte,Nat.reduceEqDiff,Nat.reduceLT]
theorem cO(l:List Int)(n:Int)(h:l.length<1099511627776):RP l n=some (l.contains n):=by
 unfold RP MI
 have key:=IZ (fun v=>Gz l n v) (fun i=>(i:Int)) l.length (fun i=> !decide (l.getD i default=n)) (.inl ()) (.inr ()) ?_ ?_
 ·simp only [Int.natCast_zero]at key
  rw [key,ZE (fun x=> !decide (x=n))]
  have e:l.all (fun x=> !decide (x=n))= !l.contains n:=by
   rw [List.all_eq_not_any_not,List.contains_eq_any_beq]
   congr 2
   funext x
   rw [Bool.not_not,Bool.eq_iff_iff,decide_eq_true_eq,beq_iff_eq]
   exact eq_comm
  rw [e]
  cases l.contains n<;>rfl
 ·intro i hi
  simp only [Gz]
  rw [if_pos (BV hi),BL (Ew hi),Int.toNat_natCast,KH i (by omega)]
  by_cases hq:l.getD i default=n
  ·rw [if_pos hq,decide_eq_true hq];rfl
  ·rw [if_neg hq,decide_eq_false hq];rfl
 ·simp only [Gz];rw [if_neg (Ag _)]
theorem OC(l:List Int)(n_:Int)(h0:l.length<1099511627776):Y.call 92 [D.sl 3 (AP (D.int .i64) l),D.int .i64 n_] []=some (D.bool (l.contains n_),[]):=Wq l n_ (cO l n_ h0)
noncomputable def Aq(s_:List Int)(v_:Int)(Mc:Int):Option ((Int)⊕(Int⊕Unit)):=
 if Mc<(s_.length:Int)then
  ck (0≤Mc∧Mc.toNat<s_.length)<|
  if v_=(s_.getD Mc.toNat default)then
   some (Sum.inr (Sum.inl Mc))
  else
   some (Sum.inl (IntKind.i64.wrap (Mc+1)))
 else
  some (Sum.inr (Sum.inr ()))
noncomputable def Co(s_:List Int)(v_:Int)(v:Int):Option (Int⊕Unit):=Hy (fun v=>Aq s_ v_ v) v
noncomputable def Cb(s_:List Int)(v_:Int):Option (Int):=
 (Co s_ v_ 0).bind fun Be=>
 match Be with
 | .inl q2_=>
  some q2_
 | .inr q2_=>
  some (-1)
def TA:SC:=
 .seq
 (.ops [
 ⟨(some 9),(.binOp .lss 3 (.tmp 8) (.tmp 7) 3),0,none⟩])
 (.seq
 (.cond (.tmp 9)
 .skip
 (.exit 0))
 (.seq
 (.block 1
 (.seq
 (.ops [
 ⟨(some 10),(.move (.tmp 8)),3,none⟩,
 ⟨(some 5),(.assign (.tmp 10)),3,none⟩])
 (.seq
 (.ops [
 ⟨(some 11),(.move (.tmp 1)),3,none⟩,
 ⟨(some 12),(.move (.tmp 0)),23,none⟩,
 ⟨(some 13),(.move (.tmp 5)),3,none⟩,
 ⟨(some 14),(.indexAddr 23 (.tmp 12) (.tmp 13)),0,none⟩,
 ⟨(some 15),(.load 3 (.tmp 14)),3,none⟩,
 ⟨(some 16),(.binOp .eql 3 (.tmp 11) (.tmp 15) 3),4,none⟩])
 (.cond (.tmp 16)
 (.seq
 (.ops [
 ⟨(some 17),(.move (.tmp 5)),3,none⟩,
 ⟨(some 4),(.assign (.tmp 17)),3,none⟩])
 .ret)
 .skip))))
 (.ops [
 ⟨(some 18),(.binOp .add 3 (.tmp 8) (.const (.int .i64 1)) 3),3,none⟩,
 ⟨(some 8),(.move (.tmp 18)),3,none⟩])))
def eH:SC:= .loop TA
def A1z:SC:=
 .seq
 (.ops [
 ⟨(some 4),(.assign (.const (.int .i64 0))),3,none⟩])
 (.seq
 (.seq
 (.ops [
 ⟨(some 6),(.move (.tmp 0)),23,none⟩,
 ⟨(some 7),(.call ⟨(.builtin .len), #[(.tmp 6)], #[23]⟩),3,none⟩,
 ⟨(some 8),(.move (.const (.int .i64 0))),3,none⟩])
 (.block 0
 eH))
 (.seq
 (.ops [
 ⟨(some 4),(.assign (.const (.int .i64 (-1)))),3,none⟩])
 .ret))
theorem qz:Try.f129.body.map (Bh lends)=some A1z:=by kernel_rfl
theorem AAT:CB Try.f129 2=true:=by kernel_rfl
theorem AGZ{a l:List D}{r:D×List D}(h:Bq Y.env A1z (fin AX l.length [ResultVar.tmp 4] r) (entry a l))(ha:a.length=2):Y.call 129 a l=some r:=
 AU (Y:=Y) rfl Try.func129 (ha▸AAT) qz h
def BI(s_:List Int)(v_:Int)(Mc:Int)(s:St):Prop:=s.v 0=D.sl 3 (AP (D.int .i64) s_)∧s.v 1=D.int .i64 v_∧s.v 7=D.int .i64 (s_.length:Int)∧s.v 8=D.int .i64 Mc
def BQ(s_:List Int)(v_:Int)(r:Int⊕Unit)(ex:Ex)(s:St):Prop:=match r with
 | .inl q=>ex= .ret∧s.v 4=D.int .i64 q
 | .inr q=>ex= .exit 0
theorem Ja(s_:List Int)(v_:Int){v:Int}{s:St}{r:Int⊕Unit}(h:Co s_ v_ v=some r)(hM:BI s_ v_ v s):Bq Y.env eH (BQ s_ v_ r) s:=by
 unfold Co at h
 refine BN (c:=TA) (fun v=>Aq s_ v_ v) (fun v s=>BI s_ v_ v s) (BQ s_ v_) ?_ h hM
 clear h hM s v r
 intro Mc s o hM h
 unfold Aq at h
 unfold BI at hM
 obtain⟨m0,m1,m2,m3⟩:=hM
 unfold TA
 by_cases e1:Mc<(s_.length:Int)
 ·rw [if_pos e1]at h
  obtain⟨e2,h⟩:=BF h
  by_cases e3:v_=(s_.getD Mc.toNat default)
  ·rw [if_pos e3]at h
   obtain rfl:=Option.some.inj h
   simp (maxDischargeDepth:=9) only [↓AO,AB,Ac,AJ,AQ,↓reduceIte,Nat.reduceEqDiff,Nat.reduceLT,m0,m1,m2,m3,e1,e2.1,e2.2,decide_eq_true e3,BI,BQ,Qp]
  ·rw [if_neg e3]at h
   obtain rfl:=Option.some.inj h
   simp (maxDischargeDepth:=9) only [↓AO,AB,Ac,AJ,AQ,↓reduceIte,Nat.reduceEqDiff,Nat.reduceLT,m0,m1,m2,m3,e1,e2.1,e2.2,e3,BI,Ik]
 ·rw [if_neg e1]at h
  obtain rfl:=Option.some.inj h
  simp (maxDischargeDepth:=9) only [↓AO,AB,AQ,↓reduceIte,Nat.reduceLT,m2,m3,e1,BI,BQ,KF]
theorem Jp(s_:List Int)(v_:Int){r:Int}(h:Cb s_ v_=some r):Y.call 129 [D.sl 3 (AP (D.int .i64) s_),D.int .i64 v_] []=some (D.int .i64 r,[]):=by
 refine AGZ ?_ rfl
 unfold A1z
 unfold Cb at h
 obtain⟨Be,hl2,h⟩:=Ao h
 try dsimp only at h
 simp (maxDischargeDepth:=9) only [↓AO,AB,Ac,AJ,AQ,↓reduceIte,Nat.reduceEqDiff,Nat.reduceLT,Int.reduceNeg]
 refine Ay (Ja s_ v_ hl2 ?_) ?_
 ·simp (maxDischargeDepth:=9) only [AB,AJ,↓reduceIte,Nat.reduceEqDiff,Nat.reduceLT,BI]
 ·intro ex2 s2 hX2
  rcases Be with q2_ | q2_
  ·unfold BQ at hX2
   dsimp only at hX2 h
   obtain⟨rfl,n2_0⟩:=hX2
   obtain rfl:=Option.some.inj h
   simp (maxDischargeDepth:=9) only [↓AO,AB,AJ,↓reduceIte,n2_0]
  ·unfold BQ at hX2
   dsimp only at hX2 h
   obtain rfl:=hX2
   obtain rfl:=Option.some.inj h
   simp (maxDischargeDepth:=9) only [↓AO,AB,AJ,AQ,↓reduceIte,Nat.reduceEqDiff,Nat.reduceLT,Int.reduceNeg]
noncomputable def Cq(s_:List Int)(v_:Int):Option (Bool):=
 (Cb s_ v_).bind fun Il=>
 some (decide (0≤Il))
def k81:SC:=
 .seq
 (.ops [
 ⟨(some 4),(.assign (.const (.bool false))),4,none⟩])
 (.seq
 (.ops [
 ⟨(some 5),(.move (.tmp 0)),23,none⟩,
 ⟨(some 6),(.move (.tmp 1)),3,none⟩,
 ⟨(some 7),(.call ⟨(.value (.func 129)), #[(.tmp 5),(.tmp 6)], #[23,3]⟩),3,none⟩,
 ⟨(some 8),(.binOp .geq 3 (.tmp 7) (.const (.int .i64 0)) 3),4,none⟩,
 ⟨(some 4),(.assign (.tmp 8)),4,none⟩])
 .ret)
theorem A20:Try.f81.body.map (Bh lends)=some k81:=by kernel_rfl
theorem AGb:CB Try.f81 2=true:=by kernel_rfl
theorem c81{a l:List D}{r:D×List D}(h:Bq Y.env k81 (fin AX l.length [ResultVar.tmp 4] r) (entry a l))(ha:a.length=2):Y.call 81 a l=some r:=
 AU (Y:=Y) rfl Try.func81 (ha▸AGb) A20 h
theorem Im(s_:List Int)(v_:Int){r:Bool}(h:Cq s_ v_=some r):Y.call 81 [D.sl 3 (AP (D.int .i64) s_),D.int .i64 v_] []=some (D.bool r,[]):=by
 refine c81 ?_ rfl
 unfold k81
 unfold Cq at h
 obtain⟨Il,hl1,h⟩:=Ao h
 try dsimp only at h
 have c1:=Jp s_ v_ hl1
 obtain rfl:=Option.some.inj h
 simp (maxDischargeDepth:=9) only [↓AO,AB,BP,AJ,AQ,↓reduceIte,Nat.reduceEqDiff,Nat.reduceLT,Nat.reduceAdd,c1]
theorem mY(l:List Int)(n:Int)(h:l.length<1099511627776): ∃r,Cb l n=some r∧(0≤r↔l.contains n=true):=by
 unfold Cb Co
 by_cases ha: ∀i,i<l.length→(!decide (n=l.getD i default))=true
 ·have key:=Bd (fun v=>Aq l n v) (fun i=>(i:Int)) l.length (.inr ()) ?_ ?_
  ·simp only [Int.natCast_zero]at key
   rw [key]
   refine⟨-1,rfl,by simp,fun hc=> ?_⟩
   obtain⟨i,hi,he⟩:=List.getElem_of_mem (List.contains_iff_mem.1 hc)
   have:=ha i hi
   rw [Av _ _ hi,he]at this;simp at this
  ·intro i hi
   simp only [Aq]
   have e:=ha i hi
   rw [if_pos (BV hi),BL (Ew hi),Int.toNat_natCast,if_neg (by simpa using e),KH i (by omega)]
  ·simp only [Aq];rw [if_neg (Ag _)]
 ·obtain⟨m,h1,h2,h3⟩:=O7 (P:=fun i=> !decide (n=l.getD i default)) ha
  have h2':n=l.getD m default:=by simpa using h2
  have key:=Bd (fun v=>Aq l n v) (fun i=>(i:Int)) m (.inl (m:Int)) ?_ ?_
  ·simp only [Int.natCast_zero]at key
   rw [key]
   refine⟨(m:Int),rfl,fun _=> ?_,fun _=>by omega⟩
   rw [h2',Av _ _ h1]
   exact List.contains_iff_mem.2 (List.getElem_mem h1)
  ·intro i hi
   simp only [Aq]
   have e:=h3 i hi
   rw [if_pos (BV (by omega)),BL (Ew (by omega)),Int.toNat_natCast,if_neg (by simpa using e),KH i (by omega)]
  ·simp only [Aq]
   rw [if_pos (BV h1),BL (Ew h1),Int.toNat_natCast,if_pos h2']
theorem Jb(l:List Int)(n:Int)(h:l.length<1099511627776):Cq l n=some (l.contains n):=by
 obtain⟨r,h1,h2⟩:=mY l n h
 unfold Cq
 rw [h1,Option.bind_some]
 congr 1
 rw [Bool.eq_iff_iff];simpa using h2
theorem Jc(s_:List Int)(v_:Int)(h0:s_.length<1099511627776):Y.call 81 [D.sl 3 (AP (D.int .i64) s_),D.int .i64 v_] []=some (D.bool (s_.contains v_),[]):=Im s_ v_ (Jb s_ v_ h0)
end Go.Proofs.Ytipfckompmhljaa
