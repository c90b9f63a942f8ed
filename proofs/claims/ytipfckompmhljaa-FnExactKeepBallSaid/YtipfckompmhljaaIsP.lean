/- When lists are a problem, as plain functions. Conditions: the lists are short. -/
import Derived.Test.YtipfckompmhljaaL6
import Derived.Test.YtipfckompmhljaaPB
namespace Go.Proofs.Ytipfckompmhljaa
open Go Dv
set_option linter.unusedSimpArgs false
set_option linter.unusedVariables false
set_option maxRecDepth 100000
set_option maxHeartbeats 4000000
def Gq(n lo hi:Int):Bool:=decide (lo≤n∧n≤hi)
theorem Jv{n lo hi:Int}:Gq n lo hi=true↔lo≤n∧n≤hi:=by simp [Gq]
noncomputable def P5(n_:Int)(low:Int)(high:Int):Option (Bool):=
 if low≤n_ then
  some (decide (n_≤high))
 else
  some false
def k77:SC:=
 .seq
 (.ops [
 ⟨(some 6),(.assign (.const (.bool false))),4,none⟩])
 (.seq
 (.ops [
 ⟨(some 7),(.move (.tmp 1)),3,none⟩,
 ⟨(some 8),(.move (.tmp 0)),3,none⟩,
 ⟨(some 9),(.binOp .leq 3 (.tmp 7) (.tmp 8) 3),4,none⟩,
 ⟨(some 10),(.move (.tmp 9)),4,none⟩,
 ⟨(some 11),(.move (.tmp 0)),3,(some (some 10,true))⟩,
 ⟨(some 12),(.move (.tmp 2)),3,(some (some 10,true))⟩,
 ⟨(some 13),(.binOp .leq 3 (.tmp 11) (.tmp 12) 3),4,(some (some 10,true))⟩,
 ⟨(some 14),(.pick (.tmp 10) (.tmp 13) (.const (.bool false))),4,none⟩,
 ⟨(some 6),(.assign (.tmp 14)),4,none⟩])
 .ret)
theorem A1q:Try.f77.body.map (Bh lends)=some k77:=by kernel_rfl
theorem AGL:CB Try.f77 3=true:=by kernel_rfl
theorem c77{a l:List D}{r:D×List D}(h:Bq Y.env k77 (fin AX l.length [ResultVar.tmp 6] r) (entry a l))(ha:a.length=3):Y.call 77 a l=some r:=
 AU (Y:=Y) rfl Try.func77 (ha▸AGL) A1q h
theorem UO(n_:Int)(low:Int)(high:Int){r:Bool}(h:P5 n_ low high=some r):Y.call 77 [D.int .i64 n_,D.int .i64 low,D.int .i64 high] []=some (D.bool r,[]):=by
 refine c77 ?_ rfl
 unfold k77
 unfold P5 at h
 by_cases e1:low≤n_
 ·rw [if_pos e1]at h
  obtain rfl:=Option.some.inj h
  simp (maxDischargeDepth:=9) only [↓AO,AB,AJ,AQ,↓reduceIte,Nat.reduceEqDiff,Nat.reduceLT,e1]
 ·rw [if_neg e1]at h
  obtain rfl:=Option.some.inj h
  simp (maxDischargeDepth:=9) only [↓AO,AB,AJ,AQ,↓reduceIte,Nat.reduceEqDiff,Nat.reduceLT,e1]
noncomputable def Wj(n_:Int)(lo:Int)(hi:Int):Option (Bool):=
 if lo≤n_ then
  some (decide (n_≤hi))
 else
  some false
def k43:SC:=
 .seq
 (.ops [
 ⟨(some 6),(.assign (.const (.bool false))),4,none⟩])
 (.seq
 (.ops [
 ⟨(some 7),(.move (.tmp 0)),3,none⟩,
 ⟨(some 8),(.move (.tmp 1)),3,none⟩,
 ⟨(some 9),(.binOp .geq 3 (.tmp 7) (.tmp 8) 3),4,none⟩,
 ⟨(some 10),(.move (.tmp 9)),4,none⟩,
 ⟨(some 11),(.move (.tmp 0)),3,(some (some 10,true))⟩,
 ⟨(some 12),(.move (.tmp 2)),3,(some (some 10,true))⟩,
 ⟨(some 13),(.binOp .leq 3 (.tmp 11) (.tmp 12) 3),4,(some (some 10,true))⟩,
 ⟨(some 14),(.pick (.tmp 10) (.tmp 13) (.const (.bool false))),4,none⟩,
 ⟨(some 6),(.assign (.tmp 14)),4,none⟩])
 .ret)
theorem A1r:Try.f43.body.map (Bh lends)=some k43:=by kernel_rfl
theorem AGN:CB Try.f43 3=true:=by kernel_rfl
theorem mU{a l:List D}{r:D×List D}(h:Bq Y.env k43 (fin AX l.length [ResultVar.tmp 6] r) (entry a l))(ha:a.length=3):Y.call 43 a l=some r:=
 AU (Y:=Y) rfl Try.func43 (ha▸AGN) A1r h
theorem ZM(n_:Int)(lo:Int)(hi:Int){r:Bool}(h:Wj n_ lo hi=some r):Y.call 43 [D.int .i64 n_,D.int .i64 lo,D.int .i64 hi] []=some (D.bool r,[]):=by
 refine mU ?_ rfl
 unfold k43
 unfold Wj at h
 by_cases e1:lo≤n_
 ·rw [if_pos e1]at h
  obtain rfl:=Option.some.inj h
  simp (maxDischargeDepth:=9) only [↓AO,AB,AJ,AQ,↓reduceIte,Nat.reduceEqDiff,Nat.reduceLT,e1]
 ·rw [if_neg e1]at h
  obtain rfl:=Option.some.inj h
  simp (maxDischargeDepth:=9) only [↓AO,AB,AJ,AQ,↓reduceIte,Nat.reduceEqDiff,Nat.reduceLT,e1]
theorem ZN(n lo hi:Int):P5 n lo hi=some (Gq n lo hi):=by unfold P5 Gq;by_cases h1:lo≤n<;>by_cases h2:n≤hi<;>simp [h1,h2]
theorem iF(n lo hi:Int):Wj n lo hi=some (Gq n lo hi):=by unfold Wj Gq;by_cases h1:lo≤n<;>by_cases h2:n≤hi<;>simp [h1,h2]
theorem Gj(n_:Int)(low:Int)(high:Int):Y.call 77 [D.int .i64 n_,D.int .i64 low,D.int .i64 high] []=some (D.bool (Gq n_ low high),[]):=UO n_ low high (ZN n_ low high)
theorem Iy(n_:Int)(lo:Int)(hi:Int):Y.call 43 [D.int .i64 n_,D.int .i64 lo,D.int .i64 hi] []=some (D.bool (Gq n_ lo hi),[]):=ZM n_ lo hi (iF n_ lo hi)
noncomputable def Gx(l:List Int)(lo:Int)(hi:Int)(Bn:Int):Option ((Int)⊕(Unit⊕Unit)):=
 if Bn<(l.length:Int)then
  ck (0≤Bn∧Bn.toNat<l.length)<|
  if(Gq (l.getD Bn.toNat default) lo hi)=true then
   some (Sum.inl (IntKind.i64.wrap (Bn+1)))
  else
   some (Sum.inr (Sum.inl ()))
 else
  some (Sum.inr (Sum.inr ()))
noncomputable def MF(l:List Int)(lo:Int)(hi:Int)(v:Int):Option (Unit⊕Unit):=Hy (fun v=>Gx l lo hi v) v
noncomputable def RO(l:List Int)(lo:Int)(hi:Int):Option (Bool):=
 (MF l lo hi 0).bind fun Be=>
 match Be with
 | .inl q2_=>
  some false
 | .inr q2_=>
  some true
def Wl:SC:=
 .seq
 (.ops [
 ⟨(some 12),(.binOp .lss 3 (.tmp 11) (.tmp 10) 3),0,none⟩])
 (.seq
 (.cond (.tmp 12)
 .skip
 (.exit 0))
 (.seq
 (.block 1
 (.seq
 (.ops [
 ⟨(some 13),(.indexAddr 23 (.tmp 9) (.tmp 11)),0,none⟩,
 ⟨(some 14),(.load 3 (.tmp 13)),3,none⟩,
 ⟨(some 8),(.assign (.tmp 14)),3,none⟩])
 (.seq
 (.ops [
 ⟨(some 15),(.move (.tmp 8)),3,none⟩,
 ⟨(some 16),(.move (.tmp 1)),3,none⟩,
 ⟨(some 17),(.move (.tmp 2)),3,none⟩,
 ⟨(some 18),(.call ⟨(.value (.func 43)), #[(.tmp 15),(.tmp 16),(.tmp 17)], #[3,3,3]⟩),4,none⟩,
 ⟨(some 19),(.unOp .not 4 (.tmp 18)),4,none⟩])
 (.cond (.tmp 19)
 (.seq
 (.ops [
 ⟨(some 6),(.assign (.const (.bool false))),4,none⟩])
 .ret)
 .skip))))
 (.ops [
 ⟨(some 20),(.binOp .add 3 (.tmp 11) (.const (.int .i64 1)) 3),3,none⟩,
 ⟨(some 11),(.move (.tmp 20)),3,none⟩])))
def mV:SC:= .loop Wl
def k72:SC:=
 .seq
 (.ops [
 ⟨(some 6),(.assign (.const (.bool false))),4,none⟩])
 (.seq
 (.seq
 (.ops [
 ⟨(some 9),(.move (.tmp 0)),23,none⟩,
 ⟨(some 10),(.call ⟨(.builtin .len), #[(.tmp 9)], #[23]⟩),3,none⟩,
 ⟨(some 11),(.move (.const (.int .i64 0))),3,none⟩])
 (.block 0
 mV))
 (.seq
 (.ops [
 ⟨(some 6),(.assign (.const (.bool true))),4,none⟩])
 .ret))
theorem A1s:Try.f72.body.map (Bh lends)=some k72:=by kernel_rfl
theorem AGP:CB Try.f72 3=true:=by kernel_rfl
theorem c72{a l:List D}{r:D×List D}(h:Bq Y.env k72 (fin AX l.length [ResultVar.tmp 6] r) (entry a l))(ha:a.length=3):Y.call 72 a l=some r:=
 AU (Y:=Y) rfl Try.func72 (ha▸AGP) A1s h
def FJ(l:List Int)(lo:Int)(hi:Int)(Bn:Int)(s:St):Prop:=s.v 1=D.int .i64 lo∧s.v 2=D.int .i64 hi∧s.v 9=D.sl 3 (AP (D.int .i64) l)∧s.v 10=D.int .i64 (l.length:Int)∧s.v 11=D.int .i64 Bn
def Gy(l:List Int)(lo:Int)(hi:Int)(r:Unit⊕Unit)(ex:Ex)(s:St):Prop:=match r with
 | .inl q=>ex= .ret∧s.v 6=D.bool false
 | .inr q=>ex= .exit 0
theorem UQ(l:List Int)(lo:Int)(hi:Int){v:Int}{s:St}{r:Unit⊕Unit}(h:MF l lo hi v=some r)(hM:FJ l lo hi v s):Bq Y.env mV (Gy l lo hi r) s:=by
 unfold MF at h
 refine BN (c:=Wl) (fun v=>Gx l lo hi v) (fun v s=>FJ l lo hi v s) (Gy l lo hi) ?_ h hM
 clear h hM s v r
 intro Bn s o hM h
 unfold Gx at h
 unfold FJ at hM
 obtain⟨m0,m1,m2,m3,m4⟩:=hM
 unfold Wl
 by_cases e1:Bn<(l.length:Int)
 ·rw [if_pos e1]at h
  obtain⟨e2,h⟩:=BF h
  have c3:=Iy (l.getD Bn.toNat default) lo hi
  by_cases e4:(Gq (l.getD Bn.toNat default) lo hi)=true
  ·rw [if_pos e4]at h
   obtain rfl:=Option.some.inj h
   simp (maxDischargeDepth:=9) only [↓AO,AB,Ac,BP,AJ,AQ,↓reduceIte,Nat.reduceEqDiff,Nat.reduceLT,Nat.reduceAdd,m0,m1,m2,m3,m4,e1,e2.1,e2.2,c3,e4,FJ,Ik]
  ·rw [if_neg e4]at h
   have e4f:(Gq (l.getD Bn.toNat default) lo hi)=false:=Bool.eq_false_iff.mpr e4
   obtain rfl:=Option.some.inj h
   simp (maxDischargeDepth:=9) only [↓AO,AB,Ac,BP,AJ,AQ,↓reduceIte,Nat.reduceEqDiff,Nat.reduceLT,Nat.reduceAdd,m0,m1,m2,m3,m4,e1,e2.1,e2.2,c3,e4f,FJ,Gy,Qp]
 ·rw [if_neg e1]at h
  obtain rfl:=Option.some.inj h
  simp (maxDischargeDepth:=9) only [↓AO,AB,AQ,↓reduceIte,Nat.reduceLT,m3,m4,e1,FJ,Gy,KF]
theorem Wm(l:List Int)(lo:Int)(hi:Int){r:Bool}(h:RO l lo hi=some r):Y.call 72 [D.sl 3 (AP (D.int .i64) l),D.int .i64 lo,D.int .i64 hi] []=some (D.bool r,[]):=by
 refine c72 ?_ rfl
 unfold k72
 unfold RO at h
 obtain⟨Be,hl2,h⟩:=Ao h
 try dsimp only at h
 simp (maxDischargeDepth:=9) only [↓AO,AB,Ac,AJ,AQ,↓reduceIte,Nat.reduceEqDiff,Nat.reduceLT]
 refine Ay (UQ l lo hi hl2 ?_) ?_
 ·simp (maxDischargeDepth:=9) only [AB,AJ,↓reduceIte,Nat.reduceEqDiff,Nat.reduceLT,FJ]
 ·intro ex2 s2 hX2
  rcases Be with q2_ | q2_
  ·unfold Gy at hX2
   dsimp only at hX2 h
   obtain⟨rfl,n2_0⟩:=hX2
   obtain rfl:=Option.some.inj h
   simp (maxDischargeDepth:=9) only [↓AO,AB,AJ,↓reduceIte,n2_0]
  ·unfold Gy at hX2
   dsimp only at hX2 h
   obtain rfl:=hX2
   obtain rfl:=Option.some.inj h
   simp (maxDischargeDepth:=9) only [↓AO,AB,AJ,AQ,↓reduceIte,Nat.reduceEqDiff,Nat.reduceLT]
def IK(l:List Int)(lo hi:Int):Bool:=l.all fun x=>Gq x lo hi
theorem bv(l:List Int)(lo hi:Int)(h:l.length<1099511627776):RO l lo hi=some (IK l lo hi):=by
 unfold RO MF
 have key:=IZ (fun v=>Gx l lo hi v) (fun i=>(i:Int)) l.length (fun i=>Gq (l.getD i default) lo hi) (.inl ()) (.inr ()) ?_ ?_
 ·simp only [Int.natCast_zero]at key
  rw [key,ZE (fun x=>Gq x lo hi)]
  unfold IK
  cases l.all (fun x=>Gq x lo hi)<;>rfl
 ·intro i hi
  simp only [Gx]
  rw [if_pos (BV hi),BL (Ew hi),Int.toNat_natCast,KH i (by omega)]
 ·simp only [Gx];rw [if_neg (Ag _)]
theorem bz(l:List Int)(lo:Int)(hi:Int)(h0:l.length<1099511627776):Y.call 72 [D.sl 3 (AP (D.int .i64) l),D.int .i64 lo,D.int .i64 hi] []=some (D.bool (IK l lo hi),[]):=Wm l lo hi (bv l lo hi h0)
noncomputable def Ak(s_:List Int)(f:Int→Option Bool)(Mc:Int):Option ((Int)⊕(Int⊕Unit)):=
 if Mc<(s_.length:Int)then
  ck (0≤Mc∧Mc.toNat<s_.length)<|
  (f (s_.getD Mc.toNat default)).bind fun FD=>
  if FD=true then
   some (Sum.inr (Sum.inl Mc))
  else
   some (Sum.inl (IntKind.i64.wrap (Mc+1)))
 else
  some (Sum.inr (Sum.inr ()))
noncomputable def CO(s_:List Int)(f:Int→Option Bool)(v:Int):Option (Int⊕Unit):=Hy (fun v=>Ak s_ f v) v
noncomputable def Bv(s_:List Int)(f:Int→Option Bool):Option (Int):=
 (CO s_ f 0).bind fun Be=>
 match Be with
 | .inl q2_=>
  some q2_
 | .inr q2_=>
  some (-1)
def Sw:SC:=
 .seq
 (.ops [
 ⟨(some 9),(.binOp .lss 3 (.tmp 8) (.tmp 7) 3),0,none⟩])
 (.seq
 (.cond (.tmp 9)
 .skip
 (.exit 0))
 (.seq
 (.block 1
 (.seq
 (.ops [
 ⟨(some 10),(.move (.tmp 8)),3,none⟩,
 ⟨(some 5),(.assign (.tmp 10)),3,none⟩])
 (.seq
 (.ops [
 ⟨(some 11),(.move (.tmp 1)),115,none⟩,
 ⟨(some 12),(.move (.tmp 0)),23,none⟩,
 ⟨(some 13),(.move (.tmp 5)),3,none⟩,
 ⟨(some 14),(.indexAddr 23 (.tmp 12) (.tmp 13)),0,none⟩,
 ⟨(some 15),(.load 3 (.tmp 14)),3,none⟩,
 ⟨(some 16),(.call ⟨(.value (.tmp 11)), #[(.tmp 15)], #[3]⟩),4,none⟩])
 (.cond (.tmp 16)
 (.seq
 (.ops [
 ⟨(some 17),(.move (.tmp 5)),3,none⟩,
 ⟨(some 4),(.assign (.tmp 17)),3,none⟩])
 .ret)
 .skip))))
 (.ops [
 ⟨(some 18),(.binOp .add 3 (.tmp 8) (.const (.int .i64 1)) 3),3,none⟩,
 ⟨(some 8),(.move (.tmp 18)),3,none⟩])))
def eG:SC:= .loop Sw
def A1t:SC:=
 .seq
 (.ops [
 ⟨(some 4),(.assign (.const (.int .i64 0))),3,none⟩])
 (.seq
 (.seq
 (.ops [
 ⟨(some 6),(.move (.tmp 0)),23,none⟩,
 ⟨(some 7),(.call ⟨(.builtin .len), #[(.tmp 6)], #[23]⟩),3,none⟩,
 ⟨(some 8),(.move (.const (.int .i64 0))),3,none⟩])
 (.block 0
 eG))
 (.seq
 (.ops [
 ⟨(some 4),(.assign (.const (.int .i64 (-1)))),3,none⟩])
 .ret))
theorem qw:Try.f155.body.map (Bh lends)=some A1t:=by kernel_rfl
theorem AAQ:CB Try.f155 2=true:=by kernel_rfl
theorem AGQ{a l:List D}{r:D×List D}(h:Bq Y.env A1t (fin AX l.length [ResultVar.tmp 4] r) (entry a l))(ha:a.length=2):Y.call 155 a l=some r:=
 AU (Y:=Y) rfl Try.func155 (ha▸AAQ) qw h
def Az(s_:List Int)(f:Int→Option Bool)(f_f:FuncId)(f_c:List D)(Mc:Int)(s:St):Prop:=s.v 0=D.sl 3 (AP (D.int .i64) s_)∧s.v 1=D.clo f_f f_c∧s.v 7=D.int .i64 (s_.length:Int)∧s.v 8=D.int .i64 Mc
def BH(s_:List Int)(f:Int→Option Bool)(f_f:FuncId)(f_c:List D)(r:Int⊕Unit)(ex:Ex)(s:St):Prop:=match r with
 | .inl q=>ex= .ret∧s.v 4=D.int .i64 q
 | .inr q=>ex= .exit 0
theorem IL(s_:List Int)(f:Int→Option Bool)(f_f:FuncId)(f_c:List D)(f_h: ∀(a0:Int) (r:Bool),f a0=some r→Y.call f_f (D.int .i64 a0::f_c) []=some (D.bool r,[]))(f_l:lends f_f=false){v:Int}{s:St}{r:Int⊕Unit}(h:CO s_ f v=some r)(hM:Az s_ f f_f f_c v s):Bq Y.env eG (BH s_ f f_f f_c r) s:=by
 unfold CO at h
 refine BN (c:=Sw) (fun v=>Ak s_ f v) (fun v s=>Az s_ f f_f f_c v s) (BH s_ f f_f f_c) ?_ h hM
 clear h hM s v r
 intro Mc s o hM h
 unfold Ak at h
 unfold Az at hM
 obtain⟨m0,m1,m2,m3⟩:=hM
 unfold Sw
 by_cases e1:Mc<(s_.length:Int)
 ·rw [if_pos e1]at h
  obtain⟨e2,h⟩:=BF h
  obtain⟨FD,hl3,h⟩:=Ao h
  try dsimp only at h
  have c3:=f_h _ _ hl3
  by_cases e4:FD=true
  ·rw [if_pos e4]at h
   obtain rfl:=Option.some.inj h
   simp (maxDischargeDepth:=9) only [↓AO,AB,Ac,BP,AJ,AQ,↓reduceIte,Nat.reduceEqDiff,Nat.reduceLT,Nat.reduceAdd,m0,m1,m2,m3,f_l,e1,e2.1,e2.2,c3,e4,Az,BH,Qp]
  ·rw [if_neg e4]at h
   have e4f:FD=false:=Bool.eq_false_iff.mpr e4
   obtain rfl:=Option.some.inj h
   simp (maxDischargeDepth:=9) only [↓AO,AB,Ac,BP,AJ,AQ,↓reduceIte,Nat.reduceEqDiff,Nat.reduceLT,Nat.reduceAdd,m0,m1,m2,m3,f_l,e1,e2.1,e2.2,c3,e4f,Az,Ik]
 ·rw [if_neg e1]at h
  obtain rfl:=Option.some.inj h
  simp (maxDischargeDepth:=9) only [↓AO,AB,AQ,↓reduceIte,Nat.reduceLT,m2,m3,e1,Az,BH,KF]
theorem Ib(s_:List Int)(f:Int→Option Bool)(f_f:FuncId)(f_c:List D)(f_h: ∀(a0:Int) (r:Bool),f a0=some r→Y.call f_f (D.int .i64 a0::f_c) []=some (D.bool r,[]))(f_l:lends f_f=false){r:Int}(h:Bv s_ f=some r):Y.call 155 [D.sl 3 (AP (D.int .i64) s_),D.clo f_f f_c] []=some (D.int .i64 r,[]):=by
 refine AGQ ?_ rfl
 unfold A1t
 unfold Bv at h
 obtain⟨Be,hl2,h⟩:=Ao h
 try dsimp only at h
 simp (maxDischargeDepth:=9) only [↓AO,AB,Ac,AJ,AQ,↓reduceIte,Nat.reduceEqDiff,Nat.reduceLT,Int.reduceNeg]
 refine Ay (IL s_ f f_f f_c f_h f_l hl2 ?_) ?_
 ·simp (maxDischargeDepth:=9) only [AB,AJ,↓reduceIte,Nat.reduceEqDiff,Nat.reduceLT,Az]
 ·intro ex2 s2 hX2
  rcases Be with q2_ | q2_
  ·unfold BH at hX2
   dsimp only at hX2 h
   obtain⟨rfl,n2_0⟩:=hX2
   obtain rfl:=Option.some.inj h
   simp (maxDischargeDepth:=9) only [↓AO,AB,AJ,↓reduceIte,n2_0]
  ·unfold BH at hX2
   dsimp only at hX2 h
   obtain rfl:=hX2
   obtain rfl:=Option.some.inj h
   simp (maxDischargeDepth:=9) only [↓AO,AB,AJ,AQ,↓reduceIte,Nat.reduceEqDiff,Nat.reduceLT,Int.reduceNeg]
noncomputable def Bc(s_:List Int)(f:Int→Option Bool):Option (Bool):=
 (Bv s_ f).bind fun Il=>
 some (decide (0≤Il))
def A1u:SC:=
 .seq
 (.ops [
 ⟨(some 4),(.assign (.const (.bool false))),4,none⟩])
 (.seq
 (.ops [
 ⟨(some 5),(.move (.tmp 0)),23,none⟩,
 ⟨(some 6),(.move (.tmp 1)),115,none⟩,
 ⟨(some 7),(.call ⟨(.value (.func 155)), #[(.tmp 5),(.tmp 6)], #[23,115]⟩),3,none⟩,
 ⟨(some 8),(.binOp .geq 3 (.tmp 7) (.const (.int .i64 0)) 3),4,none⟩,
 ⟨(some 4),(.assign (.tmp 8)),4,none⟩])
 .ret)
theorem qx:Try.f131.body.map (Bh lends)=some A1u:=by kernel_rfl
theorem AAR:CB Try.f131 2=true:=by kernel_rfl
theorem AGR{a l:List D}{r:D×List D}(h:Bq Y.env A1u (fin AX l.length [ResultVar.tmp 4] r) (entry a l))(ha:a.length=2):Y.call 131 a l=some r:=
 AU (Y:=Y) rfl Try.func131 (ha▸AAR) qx h
theorem I6(s_:List Int)(f:Int→Option Bool)(f_f:FuncId)(f_c:List D)(f_h: ∀(a0:Int) (r:Bool),f a0=some r→Y.call f_f (D.int .i64 a0::f_c) []=some (D.bool r,[]))(f_l:lends f_f=false){r:Bool}(h:Bc s_ f=some r):Y.call 131 [D.sl 3 (AP (D.int .i64) s_),D.clo f_f f_c] []=some (D.bool r,[]):=by
 refine AGR ?_ rfl
 unfold A1u
 unfold Bc at h
 obtain⟨Il,hl1,h⟩:=Ao h
 try dsimp only at h
 have c1:=Ib s_ f f_f f_c f_h f_l hl1
 obtain rfl:=Option.some.inj h
 simp (maxDischargeDepth:=9) only [↓AO,AB,BP,AJ,AQ,↓reduceIte,Nat.reduceEqDiff,Nat.reduceLT,Nat.reduceAdd,c1]
noncomputable def I7(n_:Int)(c0_:Int)(c1_:Int):Option (Bool):=
 some (!(Gq n_ c0_ c1_))
def A1v:SC:=
 .seq
 (.ops [
 ⟨(some 4),(.assign (.const (.bool false))),4,none⟩])
 (.seq
 (.ops [
 ⟨(some 5),(.move (.tmp 0)),3,none⟩,
 ⟨(some 6),(.load 3 (.tmp 1)),3,none⟩,
 ⟨(some 7),(.load 3 (.tmp 2)),3,none⟩,
 ⟨(some 8),(.call ⟨(.value (.func 77)), #[(.tmp 5),(.tmp 6),(.tmp 7)], #[3,3,3]⟩),4,none⟩,
 ⟨(some 9),(.unOp .not 4 (.tmp 8)),4,none⟩,
 ⟨(some 4),(.assign (.tmp 9)),4,none⟩])
 .ret)
theorem qy:Try.f132.body.map (Bh lends)=some A1v:=by kernel_rfl
theorem AAS:CB Try.f132 3=true:=by kernel_rfl
theorem AGS{a l:List D}{r:D×List D}(h:Bq Y.env A1v (fin AX l.length [ResultVar.tmp 4] r) (entry a l))(ha:a.length=3):Y.call 132 a l=some r:=
 AU (Y:=Y) rfl Try.func132 (ha▸AAS) qy h
theorem OA(n_:Int)(c0_:Int)(c1_:Int){r:Bool}(h:I7 n_ c0_ c1_=some r):Y.call 132 [D.int .i64 n_,D.cptr [D.int .i64 c0_],D.cptr [D.int .i64 c1_]] []=some (D.bool r,[]):=by
 refine AGS ?_ rfl
 unfold A1v
 unfold I7 at h
 have c1:=Gj n_ c0_ c1_
 obtain rfl:=Option.some.inj h
 simp (maxDischargeDepth:=9) only [↓AO,AB,BP,AJ,AQ,↓reduceIte,Nat.reduceEqDiff,Nat.reduceLT,Nat.reduceAdd,c1]
noncomputable def Ky(list:List Int)(low:Int)(high:Int):Option (Bool):=
 (Bc list (fun a0=>I7 a0 low high)).bind fun Il=>
 some (!Il)
def k83:SC:=
 .seq
 (.ops [
 ⟨(some 4),(.box 3 (.tmp 1)),0,none⟩,
 ⟨(some 5),(.box 3 (.tmp 2)),0,none⟩,
 ⟨(some 6),(.assign (.const (.bool false))),4,none⟩])
 (.seq
 (.ops [
 ⟨(some 7),(.move (.tmp 0)),23,none⟩,
 ⟨(some 8),(.makeFunc (Fn.func 132) #[] #[(.tmp 4),(.tmp 5)]),115,none⟩,
 ⟨(some 9),(.call ⟨(.value (.func 131)), #[(.tmp 7),(.tmp 8)], #[23,115]⟩),4,none⟩,
 ⟨(some 10),(.unOp .not 4 (.tmp 9)),4,none⟩,
 ⟨(some 6),(.assign (.tmp 10)),4,none⟩])
 .ret)
theorem A1w:Try.f83.body.map (Bh lends)=some k83:=by kernel_rfl
theorem AGU:CB Try.f83 3=true:=by kernel_rfl
theorem c83{a l:List D}{r:D×List D}(h:Bq Y.env k83 (fin AX l.length [ResultVar.tmp 6] r) (entry a l))(ha:a.length=3):Y.call 83 a l=some r:=
 AU (Y:=Y) rfl Try.func83 (ha▸AGU) A1w h
theorem Pt(list:List Int)(low:Int)(high:Int){r:Bool}(h:Ky list low high=some r):Y.call 83 [D.sl 3 (AP (D.int .i64) list),D.int .i64 low,D.int .i64 high] []=some (D.bool r,[]):=by
 refine c83 ?_ rfl
 unfold k83
 unfold Ky at h
 obtain⟨Il,hl1,h⟩:=Ao h
 try dsimp only at h
 have c1:=I6 list (fun a0=>I7 a0 low high) 132 [D.cptr [D.int .i64 low],D.cptr [D.int .i64 high]] (fun a0 _ hh=>OA a0 low high hh) mF hl1
 obtain rfl:=Option.some.inj h
 simp (maxDischargeDepth:=9) only [↓AO,AB,BP,AJ,AQ,↓reduceIte,Nat.reduceEqDiff,Nat.reduceLT,Nat.reduceAdd,c1]
theorem Wn(l:List Int)(f:Int→Option Bool)(p:Int→Bool)(h:l.length<1099511627776)(hf: ∀x∈l,f x=some (p x)):
  ∃r,Bv l f=some r∧(0≤r↔l.any p=true):=by
 unfold Bv CO
 by_cases ha: ∀i,i<l.length→(!p (l.getD i default))=true
 ·have key:=Bd (fun v=>Ak l f v) (fun i=>(i:Int)) l.length (.inr ()) ?_ ?_
  ·simp only [Int.natCast_zero]at key
   rw [key]
   refine⟨-1,rfl,by simp,fun hc=> ?_⟩
   obtain⟨x,hx,hpx⟩:=List.any_eq_true.1 hc
   obtain⟨i,hi,rfl⟩:=List.getElem_of_mem hx
   have:=ha i hi
   rw [Av _ _ hi,hpx]at this;cases this
  ·intro i hi
   simp only [Ak]
   have e:=ha i hi
   rw [Av _ _ hi]at e
   rw [if_pos (BV hi),BL (Ew hi),Ia _ _ hi,hf _ (List.getElem_mem hi),Option.bind_some,if_neg (by cases hp:p l[i]<;>simp_all),KH i (by omega)]
  ·simp only [Ak];rw [if_neg (Ag _)]
 ·obtain⟨m,h1,h2,h3⟩:=O7 (P:=fun i=> !p (l.getD i default)) ha
  have key:=Bd (fun v=>Ak l f v) (fun i=>(i:Int)) m (.inl (m:Int)) ?_ ?_
  ·simp only [Int.natCast_zero]at key
   rw [key]
   refine⟨(m:Int),rfl,fun _=> ?_,fun _=>by omega⟩
   have h2':p l[m]=true:=by rw [Av _ _ h1]at h2;simpa using h2
   exact List.any_eq_true.2 ⟨_,List.getElem_mem h1,h2'⟩
  ·intro i hi
   simp only [Ak]
   have e:=h3 i hi
   rw [Av _ _ (by omega)]at e
   rw [if_pos (BV (by omega)),BL (Ew (by omega)),Ia _ _ (by omega),hf _ (List.getElem_mem _),Option.bind_some,if_neg (by cases hp:p l[i]<;>simp_all),KH i (by omega)]
  ·simp only [Ak]
   have h2':p l[m]=true:=by rw [Av _ _ h1]at h2;simpa using h2
   rw [if_pos (BV h1),BL (Ew h1),Ia _ _ h1,hf _ (List.getElem_mem _),Option.bind_some,if_pos h2']
theorem Qu(l:List Int)(f:Int→Option Bool)(p:Int→Bool)(h:l.length<1099511627776)(hf: ∀x∈l,f x=some (p x)):Bc l f=some (l.any p):=by
 obtain⟨r,h1,h2⟩:=Wn l f p h hf
 unfold Bc
 rw [h1,Option.bind_some]
 congr 1
 rw [Bool.eq_iff_iff];simpa using h2
theorem Sy(l:List Int)(lo hi:Int)(h:l.length<1099511627776):Ky l lo hi=some (IK l lo hi):=by
 unfold Ky
 rw [Qu l (fun a0=>I7 a0 lo hi) (fun x=> !Gq x lo hi) h (fun x _=>rfl),Option.bind_some]
 unfold IK
 rw [List.all_eq_not_any_not]
theorem Sz(list:List Int)(low:Int)(high:Int)(h0:list.length<1099511627776):Y.call 83 [D.sl 3 (AP (D.int .i64) list),D.int .i64 low,D.int .i64 high] []=some (D.bool (IK list low high),[]):=Pt list low high (Sy list low high h0)
theorem QZ.getD{l:List (List Int)}(h:QZ l)(i:Nat):(l.getD i default).length<1099511627776:=by
 rcases Nat.lt_or_ge i l.length with hi | hi
 ·rw [Av _ _ hi];exact h.at i hi
 ·rw [List.getD_eq_getElem?_getD,List.getElem?_eq_none hi];decide
end Go.Proofs.Ytipfckompmhljaa
