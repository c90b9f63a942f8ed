/- Distances and coverings, lifted. Conditions: none. -/
import Derived.Test.YtipfckompmhljaaL6
import Derived.Test.YtipfckompmhljaaNis
import Derived.Test.YtipfckompmhljaaCon
import Derived.Test.YtipfckompmhljaaRep
namespace Go.Proofs.Ytipfckompmhljaa
open Go Dv
set_option linter.unusedSimpArgs false
set_option linter.unusedVariables false
set_option maxRecDepth 100000
set_option maxHeartbeats 4000000
noncomputable def Cf(AC:List (List (Int×Int)))(AV:List Int)(AL:List Int)(queue:List Int)(out1:List Int)(queue1:List Int)(OE:Int):Option (((List Int)×(List Int)×Int)⊕((List Int)×(List Int))):=
 if OE<((AC.getD ((queue.getD 0 default).toNat) default).length:Int)then
  ck (0≤OE∧OE.toNat<(AC.getD ((queue.getD 0 default).toNat) default).length)<|
  ck (0≤(BB (AC.getD ((queue.getD 0 default).toNat) default) OE.toNat)∧(BB (AC.getD ((queue.getD 0 default).toNat) default) OE.toNat).toNat<out1.length)<|
  if(out1.getD ((BB (AC.getD ((queue.getD 0 default).toNat) default) OE.toNat).toNat) default)<0 then
   ck (0≤(queue.getD 0 default)∧(queue.getD 0 default).toNat<out1.length)<|
   ck (queue1.length+1<1099511627776)<|
   some (Sum.inl ((out1.set ((BB (AC.getD ((queue.getD 0 default).toNat) default) OE.toNat).toNat) (IntKind.i64.wrap ((out1.getD ((queue.getD 0 default).toNat) default)+1))),(queue1++[(BB (AC.getD ((queue.getD 0 default).toNat) default) OE.toNat)]),IntKind.i64.wrap (OE+1)))
  else
   some (Sum.inl (out1,queue1,IntKind.i64.wrap (OE+1)))
 else
  some (Sum.inr (out1,queue1))
noncomputable def FO(AC:List (List (Int×Int)))(AV:List Int)(AL:List Int)(queue:List Int)(v:(List Int)×(List Int)×Int):Option ((List Int)×(List Int)):=Hy (fun v=>Cf AC AV AL queue v.1 v.2.1 v.2.2) v
noncomputable def Cg(AC:List (List (Int×Int)))(AV:List Int)(AL:List Int)(out:List Int)(queue:List Int):Option (((List Int)×(List Int))⊕((List Int))):=
 if 0<(queue.length:Int)then
  ck (0<queue.length)<|
  ck (1≤queue.length)<|
  ck (0≤(queue.getD 0 default)∧(queue.getD 0 default).toNat<AC.length)<|
  (FO AC AV AL queue (out,(queue.drop 1),0)).bind fun j4=>
  some (Sum.inl (j4.1,j4.2))
 else
  some (Sum.inr out)
noncomputable def FP(AC:List (List (Int×Int)))(AV:List Int)(AL:List Int)(v:(List Int)×(List Int)):Option ((List Int)):=Hy (fun v=>Cg AC AV AL v.1 v.2) v
noncomputable def FY(AC:List (List (Int×Int)))(AV:List Int)(AL:List Int)(v_:Int):Option ((List Int)):=
 (CW [(-1)] (AC.length:Int)).bind fun Il=>
 ck (0≤v_∧v_.toNat<Il.length)<|
 (FP AC AV AL ((Il.set v_.toNat 0),[v_])).bind fun Cu=>
 some Cu
def XE:SC:=
 .seq
 (.ops [
 ⟨(some 35),(.binOp .lss 3 (.tmp 34) (.tmp 33) 3),0,none⟩])
 (.seq
 (.cond (.tmp 35)
 .skip
 (.exit 2))
 (.seq
 (.block 3
 (.seq
 (.ops [
 ⟨(some 36),(.indexAddr 100 (.tmp 32) (.tmp 34)),0,none⟩,
 ⟨(some 37),(.load 102 (.tmp 36)),102,none⟩,
 ⟨(some 9),(.alloc 102),0,none⟩,
 ⟨none,(.store 102 (.tmp 9) (.tmp 37)),0,none⟩])
 (.seq
 (.ops [
 ⟨(some 38),(.move (.tmp 5)),23,none⟩,
 ⟨(some 39),(.fieldAddr 102 (.tmp 9) 0),0,none⟩,
 ⟨(some 40),(.load 3 (.tmp 39)),3,none⟩,
 ⟨(some 41),(.indexAddr 23 (.tmp 38) (.tmp 40)),0,none⟩,
 ⟨(some 42),(.load 3 (.tmp 41)),3,none⟩,
 ⟨(some 43),(.binOp .lss 3 (.tmp 42) (.const (.int .i64 0)) 3),4,none⟩])
 (.cond (.tmp 43)
 (.seq
 (.draws [
 (⟨[44,5,5],[44,45,46,47,48,49,50,51,52,52,51,5,51],[44]⟩,⟨(some 44),(.move (.tmp 5)),23,none⟩),
 (⟨[45,9,9],[44,45,46,47,48,49,50,51,52,52,51,5,51],[45]⟩,⟨(some 45),(.fieldAddr 102 (.tmp 9) 0),0,none⟩),
 (⟨[46,45,9],[44,45,46,47,48,49,50,51,52,52,51,5,51],[46]⟩,⟨(some 46),(.load 3 (.tmp 45)),3,none⟩),
 (⟨[47,5,5],[44,45,46,47,48,49,50,51,52,52,51,5,51],[47]⟩,⟨(some 47),(.move (.tmp 5)),23,none⟩),
 (⟨[48,7,7],[44,45,46,47,48,49,50,51,52,52,51,5,51],[48]⟩,⟨(some 48),(.move (.tmp 7)),3,none⟩),
 (⟨[49,47,48,5,7],[44,45,46,47,48,49,50,51,52,52,51,5,51],[49]⟩,⟨(some 49),(.indexAddr 23 (.tmp 47) (.tmp 48)),0,none⟩),
 (⟨[50,49,5],[44,45,46,47,48,49,50,51,52,52,51,5,51],[50]⟩,⟨(some 50),(.load 3 (.tmp 49)),3,none⟩),
 (⟨[51,50,5],[44,45,46,47,48,49,50,51,52,52,51,5,51],[51]⟩,⟨(some 51),(.binOp .add 3 (.tmp 50) (.const (.int .i64 1)) 3),3,none⟩),
 (⟨[52,44,46,5,9],[44,45,46,47,48,49,50,51,52,52,51,5,51],[52]⟩,⟨(some 52),(.indexAddr 23 (.tmp 44) (.tmp 46)),0,none⟩),
 (⟨[52,51,5,51],[44,45,46,47,48,49,50,51,52,52,51,5,51],[52,51,5,51]⟩,⟨none,(.store 3 (.tmp 52) (.tmp 51)),0,none⟩)])
 (.ops [
 ⟨(some 53),(.move (.tmp 6)),23,none⟩,
 ⟨(some 54),(.fieldAddr 102 (.tmp 9) 0),0,none⟩,
 ⟨(some 55),(.load 3 (.tmp 54)),3,none⟩,
 ⟨(some 56),(.buildSlice 23 1 #[(0,(.tmp 55))]),23,none⟩,
 ⟨(some 57),(.call ⟨(.builtin .append), #[(.tmp 53),(.tmp 56)], #[23,23]⟩),23,none⟩,
 ⟨(some 6),(.assign (.tmp 57)),23,none⟩]))
 .skip))))
 (.ops [
 ⟨(some 58),(.binOp .add 3 (.tmp 34) (.const (.int .i64 1)) 3),3,none⟩,
 ⟨(some 34),(.move (.tmp 58)),3,none⟩])))
def nM:SC:= .loop XE
def XF:SC:=
 .seq
 (.seq
 (.ops [
 ⟨(some 20),(.move (.tmp 6)),23,none⟩,
 ⟨(some 21),(.call ⟨(.builtin .len), #[(.tmp 20)], #[23]⟩),3,none⟩,
 ⟨(some 22),(.binOp .gtr 3 (.tmp 21) (.const (.int .i64 0)) 3),4,none⟩])
 (.cond (.tmp 22)
 .skip
 (.exit 0)))
 (.block 1
 (.seq
 (.ops [
 ⟨(some 23),(.move (.tmp 6)),23,none⟩,
 ⟨(some 24),(.indexAddr 23 (.tmp 23) (.const (.int .i64 0))),0,none⟩,
 ⟨(some 25),(.load 3 (.tmp 24)),3,none⟩,
 ⟨(some 7),(.assign (.tmp 25)),3,none⟩])
 (.seq
 (.ops [
 ⟨(some 26),(.move (.tmp 6)),23,none⟩,
 ⟨(some 27),(.slice 23 (.tmp 26) (some (.const (.int .i64 1))) none none),900005,none⟩,
 ⟨(some 6),(.assign (.tmp 27)),23,none⟩])
 (.seq
 (.ops [
 ⟨(some 28),(.fieldAddr 31 (.tmp 2) 0),0,none⟩,
 ⟨(some 29),(.load 29 (.tmp 28)),29,none⟩,
 ⟨(some 30),(.move (.tmp 7)),3,none⟩,
 ⟨(some 31),(.indexAddr 29 (.tmp 29) (.tmp 30)),0,none⟩,
 ⟨(some 32),(.load 100 (.tmp 31)),100,none⟩,
 ⟨(some 33),(.call ⟨(.builtin .len), #[(.tmp 32)], #[100]⟩),3,none⟩,
 ⟨(some 34),(.move (.const (.int .i64 0))),3,none⟩])
 (.block 2
 nM)))))
def nN:SC:= .loop XF
def k82:SC:=
 .seq
 (.ops [
 ⟨(some 2),(.box 31 (.tmp 0)),0,none⟩,
 ⟨(some 4),(.assign (.const (.slice none 0 0))),23,none⟩])
 (.seq
 (.ops [
 ⟨(some 10),(.buildSlice 23 1 #[(0,(.const (.int .i64 (-1))))]),23,none⟩,
 ⟨(some 11),(.fieldAddr 31 (.tmp 2) 0),0,none⟩,
 ⟨(some 12),(.load 29 (.tmp 11)),29,none⟩,
 ⟨(some 13),(.call ⟨(.builtin .len), #[(.tmp 12)], #[29]⟩),3,none⟩,
 ⟨(some 14),(.call ⟨(.value (.func 130)), #[(.tmp 10),(.tmp 13)], #[23,3]⟩),23,none⟩,
 ⟨(some 5),(.assign (.tmp 14)),23,none⟩])
 (.seq
 (.ops [
 ⟨(some 15),(.move (.tmp 5)),23,none⟩,
 ⟨(some 16),(.move (.tmp 1)),3,none⟩,
 ⟨(some 17),(.indexAddr 23 (.tmp 15) (.tmp 16)),0,none⟩,
 ⟨none,(.store 3 (.tmp 17) (.const (.int .i64 0))),0,none⟩])
 (.seq
 (.ops [
 ⟨(some 18),(.move (.tmp 1)),3,none⟩,
 ⟨(some 19),(.buildSlice 23 1 #[(0,(.tmp 18))]),23,none⟩,
 ⟨(some 6),(.assign (.tmp 19)),23,none⟩])
 (.seq
 (.block 0
 nN)
 (.seq
 (.ops [
 ⟨(some 59),(.move (.tmp 5)),23,none⟩,
 ⟨(some 4),(.assign (.tmp 59)),23,none⟩])
 .ret)))))
theorem A2M:Try.f82.body.map (Bh lends)=some k82:=by kernel_rfl
theorem AHD:CB Try.f82 2=true:=by kernel_rfl
theorem c82{a l:List D}{r:D×List D}(h:Bq Y.env k82 (fin AX l.length [ResultVar.tmp 4] r) (entry a l))(ha:a.length=2):Y.call 82 a l=some r:=
 AU (Y:=Y) rfl Try.func82 (ha▸AHD) A2M h
def CG(AC:List (List (Int×Int)))(AV:List Int)(AL:List Int)(queue:List Int)(out1:List Int)(queue1:List Int)(OE:Int)(s:St):Prop:=s.v 2=D.box [D.sl 100 (AP (fun x=>D.sl 102 (AY .i64 .i64 x)) AC),D.sl 3 (AP (D.int .i64) AV),D.sl 3 (AP (D.int .i64) AL)]∧s.v 5=D.own 3 (AP (D.int .i64) out1)∧s.v 6=D.own 3 (AP (D.int .i64) queue1)∧s.v 7=D.int .i64 (queue.getD 0 default)∧s.v 32=D.sl 102 (AY .i64 .i64 (AC.getD ((queue.getD 0 default).toNat) default))∧s.v 33=D.int .i64 ((AC.getD ((queue.getD 0 default).toNat) default).length:Int)∧s.v 34=D.int .i64 OE
def EM(AC:List (List (Int×Int)))(AV:List Int)(AL:List Int)(queue:List Int)(r:(List Int)×(List Int))(ex:Ex)(s:St):Prop:=ex= .exit 2∧s.v 2=D.box [D.sl 100 (AP (fun x=>D.sl 102 (AY .i64 .i64 x)) AC),D.sl 3 (AP (D.int .i64) AV),D.sl 3 (AP (D.int .i64) AL)]∧s.v 5=D.own 3 (AP (D.int .i64) r.1)∧s.v 6=D.own 3 (AP (D.int .i64) r.2)
theorem MX(AC:List (List (Int×Int)))(AV:List Int)(AL:List Int)(queue:List Int){v:(List Int)×(List Int)×Int}{s:St}{r:(List Int)×(List Int)}(h:FO AC AV AL queue v=some r)(hM:CG AC AV AL queue v.1 v.2.1 v.2.2 s):Bq Y.env nM (EM AC AV AL queue r) s:=by
 unfold FO at h
 refine BN (c:=XE) (fun v=>Cf AC AV AL queue v.1 v.2.1 v.2.2) (fun v s=>CG AC AV AL queue v.1 v.2.1 v.2.2 s) (EM AC AV AL queue) ?_ h hM
 clear h hM s v r
 intro v s o hM h
 obtain⟨out1,queue1,OE⟩:=v
 dsimp only at h hM
 unfold Cf at h
 unfold CG at hM
 obtain⟨m0,m1,m2,m3,m4,m5,m6⟩:=hM
 unfold XE
 by_cases e7:OE<((AC.getD ((queue.getD 0 default).toNat) default).length:Int)
 ·rw [if_pos e7]at h
  obtain⟨e8,h⟩:=BF h
  obtain⟨e9,h⟩:=BF h
  by_cases e10:(out1.getD ((BB (AC.getD ((queue.getD 0 default).toNat) default) OE.toNat).toNat) default)<0
  ·rw [if_pos e10]at h
   obtain⟨e11,h⟩:=BF h
   obtain⟨e12,h⟩:=BF h
   obtain rfl:=Option.some.inj h
   simp (maxDischargeDepth:=9) only [↓AO,AB,Ac,BP,AJ,AQ,↓reduceIte,Nat.reduceEqDiff,Nat.reduceLT,Nat.reduceLeDiff,Nat.reduceAdd,Nat.reduceBEq,m0,m1,m2,m3,m4,m5,m6,e7,e8.1,e8.2,e9.1,e9.2,e10,e11.1,e11.2,e12,CG,Ik]
  ·rw [if_neg e10]at h
   obtain rfl:=Option.some.inj h
   simp (maxDischargeDepth:=9) only [↓AO,AB,Ac,BP,AJ,AQ,↓reduceIte,Nat.reduceEqDiff,Nat.reduceLT,Nat.reduceAdd,m0,m1,m2,m3,m4,m5,m6,e7,e8.1,e8.2,e9.1,e9.2,e10,CG,Ik]
 ·rw [if_neg e7]at h
  obtain rfl:=Option.some.inj h
  simp (maxDischargeDepth:=9) only [↓AO,AB,AQ,↓reduceIte,Nat.reduceEqDiff,Nat.reduceLT,m0,m1,m2,m5,m6,e7,CG,EM,KF]
def Ch(AC:List (List (Int×Int)))(AV:List Int)(AL:List Int)(out:List Int)(queue:List Int)(s:St):Prop:=s.v 2=D.box [D.sl 100 (AP (fun x=>D.sl 102 (AY .i64 .i64 x)) AC),D.sl 3 (AP (D.int .i64) AV),D.sl 3 (AP (D.int .i64) AL)]∧s.v 5=D.own 3 (AP (D.int .i64) out)∧s.v 6=D.own 3 (AP (D.int .i64) queue)
def EN(AC:List (List (Int×Int)))(AV:List Int)(AL:List Int)(r:(List Int))(ex:Ex)(s:St):Prop:=ex= .exit 0∧s.v 5=D.own 3 (AP (D.int .i64) r)
theorem MZ(AC:List (List (Int×Int)))(AV:List Int)(AL:List Int){v:(List Int)×(List Int)}{s:St}{r:(List Int)}(h:FP AC AV AL v=some r)(hM:Ch AC AV AL v.1 v.2 s):Bq Y.env nN (EN AC AV AL r) s:=by
 unfold FP at h
 refine BN (c:=XF) (fun v=>Cg AC AV AL v.1 v.2) (fun v s=>Ch AC AV AL v.1 v.2 s) (EN AC AV AL) ?_ h hM
 clear h hM s v r
 intro v s o hM h
 obtain⟨out,queue⟩:=v
 dsimp only at h hM
 unfold Cg at h
 unfold Ch at hM
 obtain⟨m0,m1,m2⟩:=hM
 unfold XF
 by_cases e3:0<(queue.length:Int)
 ·rw [if_pos e3]at h
  obtain⟨e4,h⟩:=BF h
  obtain⟨e5,h⟩:=BF h
  obtain⟨e6,h⟩:=BF h
  obtain⟨j4,hl8,h⟩:=Ao h
  try dsimp only at h
  simp (maxDischargeDepth:=9) only [↓AO,AB,Ac,BP,AJ,AQ,↓reduceIte,Nat.reduceEqDiff,Nat.reduceLT,Int.reduceLE,Int.reduceToNat,m0,m2,e3,e4,e5,e6.1,e6.2]
  refine Ay (MX AC AV AL queue hl8 ?_) ?_
  ·simp (maxDischargeDepth:=9) only [AB,↓reduceIte,Nat.reduceEqDiff,m0,m1,CG]
  ·intro ex8 s8 hX8
   unfold EM at hX8
   obtain⟨rfl,n8_0,n8_1,n8_2⟩:=hX8
   obtain rfl:=Option.some.inj h
   simp (maxDischargeDepth:=9) only [↓AO,AB,↓reduceIte,n8_0,n8_1,n8_2,Ch,Ik]
 ·rw [if_neg e3]at h
  obtain rfl:=Option.some.inj h
  simp (maxDischargeDepth:=9) only [↓AO,AB,Ac,AJ,AQ,↓reduceIte,Nat.reduceEqDiff,Nat.reduceLT,m1,m2,e3,Ch,EN,KF]
theorem NI(AC:List (List (Int×Int)))(AV:List Int)(AL:List Int)(v_:Int){r:(List Int)}(h:FY AC AV AL v_=some r):Y.call 82 [D.agg [D.sl 100 (AP (fun x=>D.sl 102 (AY .i64 .i64 x)) AC),D.sl 3 (AP (D.int .i64) AV),D.sl 3 (AP (D.int .i64) AL)],D.int .i64 v_] []=some (D.own 3 (AP (D.int .i64) r),[]):=by
 refine c82 ?_ rfl
 unfold k82
 unfold FY at h
 obtain⟨Il,hl1,h⟩:=Ao h
 try dsimp only at h
 have c1:=Jf [(-1)] (AC.length:Int) hl1
 simp only [IY,qb]at c1
 obtain⟨e2,h⟩:=BF h
 obtain⟨Cu,hl4,h⟩:=Ao h
 try dsimp only at h
 simp (maxDischargeDepth:=9) only [↓AO,AB,Ac,BP,AJ,AQ,↓reduceIte,Nat.reduceEqDiff,Nat.reduceLT,Nat.reduceLeDiff,Nat.reduceAdd,Int.reduceNeg,c1,e2.1,e2.2]
 refine Ay (MZ AC AV AL hl4 ?_) ?_
 ·simp (maxDischargeDepth:=9) only [AB,↓reduceIte,Nat.reduceEqDiff,Int.reduceNeg,Ch]<;>(repeat' apply And.intro)<;>first | rfl | exact⟨_,rfl⟩ | exact⟨_,_,rfl⟩ | simp [AP,Bu]
 ·intro ex4 s4 hX4
  unfold EN at hX4
  obtain⟨rfl,n4_0⟩:=hX4
  obtain rfl:=Option.some.inj h
  simp (maxDischargeDepth:=9) only [↓AO,AB,Ac,AJ,↓reduceIte,Nat.reduceEqDiff,Nat.reduceLT,n4_0]
noncomputable def Fy(AC:List (List (Int×Int)))(v_:Int)(out:List Int)(XG:Int):Option (((List Int)×Int)⊕((List Int))):=
 if XG<((AC.getD v_.toNat default).length:Int)then
  ck (0≤XG∧XG.toNat<(AC.getD v_.toNat default).length)<|
  ck (out.length+1<1099511627776)<|
  some (Sum.inl ((out++[(BB (AC.getD v_.toNat default) XG.toNat)]),IntKind.i64.wrap (XG+1)))
 else
  some (Sum.inr out)
noncomputable def LC(AC:List (List (Int×Int)))(v_:Int)(v:(List Int)×Int):Option ((List Int)):=Hy (fun v=>Fy AC v_ v.1 v.2) v
noncomputable def NJ(AC:List (List (Int×Int)))(AV:List Int)(AL:List Int)(v_:Int):Option ((List Int)):=
 ck (0≤v_∧v_.toNat<AC.length)<|
 (LC AC v_ ([],0)).bind fun FD=>
 some FD
def XH:SC:=
 .seq
 (.ops [
 ⟨(some 15),(.binOp .lss 3 (.tmp 14) (.tmp 13) 3),0,none⟩])
 (.seq
 (.cond (.tmp 15)
 .skip
 (.exit 0))
 (.seq
 (.block 1
 (.seq
 (.ops [
 ⟨(some 16),(.indexAddr 100 (.tmp 12) (.tmp 14)),0,none⟩,
 ⟨(some 17),(.load 102 (.tmp 16)),102,none⟩,
 ⟨(some 7),(.alloc 102),0,none⟩,
 ⟨none,(.store 102 (.tmp 7) (.tmp 17)),0,none⟩])
 (.ops [
 ⟨(some 18),(.move (.tmp 5)),23,none⟩,
 ⟨(some 19),(.fieldAddr 102 (.tmp 7) 0),0,none⟩,
 ⟨(some 20),(.load 3 (.tmp 19)),3,none⟩,
 ⟨(some 21),(.buildSlice 23 1 #[(0,(.tmp 20))]),23,none⟩,
 ⟨(some 22),(.call ⟨(.builtin .append), #[(.tmp 18),(.tmp 21)], #[23,23]⟩),23,none⟩,
 ⟨(some 5),(.assign (.tmp 22)),23,none⟩])))
 (.ops [
 ⟨(some 23),(.binOp .add 3 (.tmp 14) (.const (.int .i64 1)) 3),3,none⟩,
 ⟨(some 14),(.move (.tmp 23)),3,none⟩])))
def nO:SC:= .loop XH
def k89:SC:=
 .seq
 (.ops [
 ⟨(some 2),(.box 31 (.tmp 0)),0,none⟩,
 ⟨(some 4),(.assign (.const (.slice none 0 0))),23,none⟩])
 (.seq
 (.ops [
 ⟨(some 5),(.assign (.const (.slice none 0 0))),23,none⟩])
 (.seq
 (.seq
 (.ops [
 ⟨(some 8),(.fieldAddr 31 (.tmp 2) 0),0,none⟩,
 ⟨(some 9),(.load 29 (.tmp 8)),29,none⟩,
 ⟨(some 10),(.move (.tmp 1)),3,none⟩,
 ⟨(some 11),(.indexAddr 29 (.tmp 9) (.tmp 10)),0,none⟩,
 ⟨(some 12),(.load 100 (.tmp 11)),100,none⟩,
 ⟨(some 13),(.call ⟨(.builtin .len), #[(.tmp 12)], #[100]⟩),3,none⟩,
 ⟨(some 14),(.move (.const (.int .i64 0))),3,none⟩])
 (.block 0
 nO))
 (.seq
 (.ops [
 ⟨(some 24),(.move (.tmp 5)),23,none⟩,
 ⟨(some 4),(.assign (.tmp 24)),23,none⟩])
 .ret)))
theorem A2N:Try.f89.body.map (Bh lends)=some k89:=by kernel_rfl
theorem AHF:CB Try.f89 2=true:=by kernel_rfl
theorem c89{a l:List D}{r:D×List D}(h:Bq Y.env k89 (fin AX l.length [ResultVar.tmp 4] r) (entry a l))(ha:a.length=2):Y.call 89 a l=some r:=
 AU (Y:=Y) rfl Try.func89 (ha▸AHF) A2N h
def Fz(AC:List (List (Int×Int)))(v_:Int)(out:List Int)(XG:Int)(s:St):Prop:=s.v 5=D.own 3 (AP (D.int .i64) out)∧s.v 12=D.sl 102 (AY .i64 .i64 (AC.getD v_.toNat default))∧s.v 13=D.int .i64 ((AC.getD v_.toNat default).length:Int)∧s.v 14=D.int .i64 XG
def JD(AC:List (List (Int×Int)))(v_:Int)(r:(List Int))(ex:Ex)(s:St):Prop:=ex= .exit 0∧s.v 5=D.own 3 (AP (D.int .i64) r)
theorem TT(AC:List (List (Int×Int)))(v_:Int){v:(List Int)×Int}{s:St}{r:(List Int)}(h:LC AC v_ v=some r)(hM:Fz AC v_ v.1 v.2 s):Bq Y.env nO (JD AC v_ r) s:=by
 unfold LC at h
 refine BN (c:=XH) (fun v=>Fy AC v_ v.1 v.2) (fun v s=>Fz AC v_ v.1 v.2 s) (JD AC v_) ?_ h hM
 clear h hM s v r
 intro v s o hM h
 obtain⟨out,XG⟩:=v
 dsimp only at h hM
 unfold Fy at h
 unfold Fz at hM
 obtain⟨m0,m1,m2,m3⟩:=hM
 unfold XH
 by_cases e2:XG<((AC.getD v_.toNat default).length:Int)
 ·rw [if_pos e2]at h
  obtain⟨e3,h⟩:=BF h
  obtain⟨e4,h⟩:=BF h
  obtain rfl:=Option.some.inj h
  simp (maxDischargeDepth:=9) only [↓AO,AB,Ac,BP,AJ,AQ,↓reduceIte,Nat.reduceEqDiff,Nat.reduceLT,Nat.reduceLeDiff,Nat.reduceAdd,m0,m1,m2,m3,e2,e3.1,e3.2,e4,Fz,Ik]
 ·rw [if_neg e2]at h
  obtain rfl:=Option.some.inj h
  simp (maxDischargeDepth:=9) only [↓AO,AB,AQ,↓reduceIte,Nat.reduceEqDiff,Nat.reduceLT,m0,m2,m3,e2,Fz,JD,KF]
theorem Ua(AC:List (List (Int×Int)))(AV:List Int)(AL:List Int)(v_:Int){r:(List Int)}(h:NJ AC AV AL v_=some r):Y.call 89 [D.agg [D.sl 100 (AP (fun x=>D.sl 102 (AY .i64 .i64 x)) AC),D.sl 3 (AP (D.int .i64) AV),D.sl 3 (AP (D.int .i64) AL)],D.int .i64 v_] []=some (D.own 3 (AP (D.int .i64) r),[]):=by
 refine c89 ?_ rfl
 unfold k89
 unfold NJ at h
 obtain⟨e1,h⟩:=BF h
 obtain⟨FD,hl3,h⟩:=Ao h
 try dsimp only at h
 simp (maxDischargeDepth:=9) only [↓AO,AB,Ac,BP,AJ,AQ,↓reduceIte,Nat.reduceEqDiff,Nat.reduceLT,Nat.reduceAdd,e1.1,e1.2]
 refine Ay (TT AC v_ hl3 ?_) ?_
 ·simp (maxDischargeDepth:=9) only [AB,↓reduceIte,Nat.reduceEqDiff,Fz]<;>(repeat' apply And.intro)<;>first | rfl | exact⟨_,rfl⟩ | exact⟨_,_,rfl⟩ | simp [AP,Bu]
 ·intro ex3 s3 hX3
  unfold JD at hX3
  obtain⟨rfl,n3_0⟩:=hX3
  obtain rfl:=Option.some.inj h
  simp (maxDischargeDepth:=9) only [↓AO,AB,Ac,AJ,↓reduceIte,Nat.reduceEqDiff,Nat.reduceLT,n3_0]
def k38:SC:=
 .seq
 (.ops [
 ⟨(some 1),(.box 31 (.tmp 0)),0,none⟩,
 ⟨(some 2),(.assign (.const (.bool false))),4,none⟩])
 (.seq
 (.ops [
 ⟨(some 3),(.load 31 (.tmp 1)),31,none⟩,
 ⟨(some 4),(.call ⟨(.value (.func 82)), #[(.tmp 3),(.const (.int .i64 0))], #[31,3]⟩),23,none⟩,
 ⟨(some 5),(.call ⟨(.value (.func 81)), #[(.tmp 4),(.const (.int .i64 (-1)))], #[23,3]⟩),4,none⟩,
 ⟨(some 6),(.unOp .not 4 (.tmp 5)),4,none⟩,
 ⟨(some 2),(.assign (.tmp 6)),4,none⟩])
 .ret)
theorem A2O:Try.f38.body.map (Bh lends)=some k38:=by kernel_rfl
theorem AHG:CB Try.f38 1=true:=by kernel_rfl
theorem c38{a l:List D}{r:D×List D}(h:Bq Y.env k38 (fin AX l.length [ResultVar.tmp 2] r) (entry a l))(ha:a.length=1):Y.call 38 a l=some r:=
 AU (Y:=Y) rfl Try.func38 (ha▸AHG) A2O h
def rM:SC:=
 .seq
 (.ops [
 ⟨(some 67),(.binOp .lss 3 (.tmp 66) (.tmp 65) 3),0,none⟩])
 (.seq
 (.cond (.tmp 67)
 .skip
 (.exit 2))
 (.seq
 (.block 3
 (.seq
 (.ops [
 ⟨(some 68),(.move (.tmp 66)),3,none⟩,
 ⟨(some 69),(.indexAddr 100 (.tmp 64) (.tmp 66)),0,none⟩,
 ⟨(some 70),(.load 102 (.tmp 69)),102,none⟩,
 ⟨(some 11),(.alloc 102),0,none⟩,
 ⟨(some 10),(.assign (.tmp 68)),3,none⟩,
 ⟨none,(.store 102 (.tmp 11) (.tmp 70)),0,none⟩])
 (.seq
 (.draws [
 (⟨[71,9,9],[71,72,73,74,75,76,77,78,79,80,81,82,79,81,83],[71]⟩,⟨(some 71),(.move (.tmp 9)),100,none⟩),
 (⟨[72,10,10],[71,72,73,74,75,76,77,78,79,80,81,82,79,81,83],[72]⟩,⟨(some 72),(.move (.tmp 10)),3,none⟩),
 (⟨[73,71,72,9,10],[71,72,73,74,75,76,77,78,79,80,81,82,79,81,83],[73]⟩,⟨(some 73),(.indexAddr 100 (.tmp 71) (.tmp 72)),0,none⟩),
 (⟨[74,73,9],[71,72,73,74,75,76,77,78,79,80,81,82,79,81,83],[74]⟩,⟨(some 74),(.load 102 (.tmp 73)),102,none⟩),
 (⟨[75,2,2],[71,72,73,74,75,76,77,78,79,80,81,82,79,81,83],[75]⟩,⟨(some 75),(.move (.tmp 2)),23,none⟩),
 (⟨[76,11,11],[71,72,73,74,75,76,77,78,79,80,81,82,79,81,83],[76]⟩,⟨(some 76),(.fieldAddr 102 (.tmp 11) 0),0,none⟩),
 (⟨[77,76,11],[71,72,73,74,75,76,77,78,79,80,81,82,79,81,83],[77]⟩,⟨(some 77),(.load 3 (.tmp 76)),3,none⟩),
 (⟨[78,75,77,2,11],[71,72,73,74,75,76,77,78,79,80,81,82,79,81,83],[78]⟩,⟨(some 78),(.indexAddr 23 (.tmp 75) (.tmp 77)),0,none⟩),
 (⟨[79,78,2],[71,72,73,74,75,76,77,78,79,80,81,82,79,81,83],[79]⟩,⟨(some 79),(.load 3 (.tmp 78)),3,none⟩),
 (⟨[80,11,11],[71,72,73,74,75,76,77,78,79,80,81,82,79,81,83],[80]⟩,⟨(some 80),(.fieldAddr 102 (.tmp 11) 1),0,none⟩),
 (⟨[81,80,11],[71,72,73,74,75,76,77,78,79,80,81,82,79,81,83],[81]⟩,⟨(some 81),(.load 3 (.tmp 80)),3,none⟩),
 (⟨[82,79,81,2,11],[71,72,73,74,75,76,77,78,79,80,81,82,79,81,83],[82,79,81]⟩,⟨(some 82),(.build 102 #[(0,(.tmp 79)),(1,(.tmp 81))]),102,none⟩),
 (⟨[83,74,82,9,82],[71,72,73,74,75,76,77,78,79,80,81,82,79,81,83],[83]⟩,⟨(some 83),(.binOp .neq 102 (.tmp 74) (.tmp 82) 102),4,none⟩)])
 (.cond (.tmp 83)
 (.seq
 (.ops [
 ⟨(some 6),(.assign (.const (.bool false))),4,none⟩])
 .ret)
 .skip))))
 (.ops [
 ⟨(some 84),(.binOp .add 3 (.tmp 66) (.const (.int .i64 1)) 3),3,none⟩,
 ⟨(some 66),(.move (.tmp 84)),3,none⟩])))
def A2P:SC:= .loop rM
def rO:SC:=
 .seq
 (.ops [
 ⟨(some 31),(.binOp .lss 3 (.tmp 30) (.tmp 29) 3),0,none⟩])
 (.seq
 (.cond (.tmp 31)
 .skip
 (.exit 0))
 (.seq
 (.block 1
 (.seq
 (.ops [
 ⟨(some 32),(.move (.tmp 30)),3,none⟩,
 ⟨(some 33),(.indexAddr 29 (.tmp 28) (.tmp 30)),0,none⟩,
 ⟨(some 34),(.load 100 (.tmp 33)),100,none⟩,
 ⟨(some 7),(.assign (.tmp 32)),3,none⟩,
 ⟨(some 8),(.assign (.tmp 34)),100,none⟩])
 (.seq
 (.draws [
 (⟨[35,4,4],[35,36,37,38,39,40,41,42,9,42,4],[35]⟩,⟨(some 35),(.fieldAddr 31 (.tmp 4) 0),0,none⟩),
 (⟨[36,35,4],[35,36,37,38,39,40,41,42,9,42,4],[36]⟩,⟨(some 36),(.load 29 (.tmp 35)),29,none⟩),
 (⟨[37,2,2],[35,36,37,38,39,40,41,42,9,42,4],[37]⟩,⟨(some 37),(.move (.tmp 2)),23,none⟩),
 (⟨[38,7,7],[35,36,37,38,39,40,41,42,9,42,4],[38]⟩,⟨(some 38),(.move (.tmp 7)),3,none⟩),
 (⟨[39,37,38,2,7],[35,36,37,38,39,40,41,42,9,42,4],[39]⟩,⟨(some 39),(.indexAddr 23 (.tmp 37) (.tmp 38)),0,none⟩),
 (⟨[40,39,2],[35,36,37,38,39,40,41,42,9,42,4],[40]⟩,⟨(some 40),(.load 3 (.tmp 39)),3,none⟩),
 (⟨[41,36,40,4,2],[35,36,37,38,39,40,41,42,9,42,4],[41]⟩,⟨(some 41),(.indexAddr 29 (.tmp 36) (.tmp 40)),0,none⟩),
 (⟨[42,41,4],[35,36,37,38,39,40,41,42,9,42,4],[42]⟩,⟨(some 42),(.load 100 (.tmp 41)),100,none⟩),
 (⟨[9,42,4],[35,36,37,38,39,40,41,42,9,42,4],[9,42,4]⟩,⟨(some 9),(.assign (.tmp 42)),100,none⟩)])
 (.seq
 (.seq
 (.draws [
 (⟨[43,8,8],[43,44,45,46,47,48,49,50,51,52,53,54,55,56,57,58,59,60,61,62,63],[43]⟩,⟨(some 43),(.move (.tmp 8)),100,none⟩),
 (⟨[44,43,8],[43,44,45,46,47,48,49,50,51,52,53,54,55,56,57,58,59,60,61,62,63],[44]⟩,⟨(some 44),(.call ⟨(.builtin .len), #[(.tmp 43)], #[100]⟩),3,none⟩),
 (⟨[45,9,9],[43,44,45,46,47,48,49,50,51,52,53,54,55,56,57,58,59,60,61,62,63],[45]⟩,⟨(some 45),(.move (.tmp 9)),100,none⟩),
 (⟨[46,45,9],[43,44,45,46,47,48,49,50,51,52,53,54,55,56,57,58,59,60,61,62,63],[46]⟩,⟨(some 46),(.call ⟨(.builtin .len), #[(.tmp 45)], #[100]⟩),3,none⟩),
 (⟨[47,44,46,44,46],[43,44,45,46,47,48,49,50,51,52,53,54,55,56,57,58,59,60,61,62,63],[47]⟩,⟨(some 47),(.binOp .neq 3 (.tmp 44) (.tmp 46) 3),4,none⟩),
 (⟨[48,47,47],[43,44,45,46,47,48,49,50,51,52,53,54,55,56,57,58,59,60,61,62,63],[48]⟩,⟨(some 48),(.move (.tmp 47)),4,none⟩),
 (⟨[49,3,3,48],[43,44,45,46,47,48,49,50,51,52,53,54,55,56,57,58,59,60,61,62,63],[49]⟩,⟨(some 49),(.fieldAddr 31 (.tmp 3) 2),0,(some (some 48,false))⟩),
 (⟨[50,49,3,48],[43,44,45,46,47,48,49,50,51,52,53,54,55,56,57,58,59,60,61,62,63],[50]⟩,⟨(some 50),(.load 23 (.tmp 49)),23,(some (some 48,false))⟩),
 (⟨[51,7,7,48],[43,44,45,46,47,48,49,50,51,52,53,54,55,56,57,58,59,60,61,62,63],[51]⟩,⟨(some 51),(.move (.tmp 7)),3,(some (some 48,false))⟩),
 (⟨[52,50,51,3,7,48],[43,44,45,46,47,48,49,50,51,52,53,54,55,56,57,58,59,60,61,62,63],[52]⟩,⟨(some 52),(.indexAddr 23 (.tmp 50) (.tmp 51)),0,(some (some 48,false))⟩),
 (⟨[53,52,3,48],[43,44,45,46,47,48,49,50,51,52,53,54,55,56,57,58,59,60,61,62,63],[53]⟩,⟨(some 53),(.load 3 (.tmp 52)),3,(some (some 48,false))⟩),
 (⟨[54,4,4,48],[43,44,45,46,47,48,49,50,51,52,53,54,55,56,57,58,59,60,61,62,63],[54]⟩,⟨(some 54),(.fieldAddr 31 (.tmp 4) 2),0,(some (some 48,false))⟩),
 (⟨[55,54,4,48],[43,44,45,46,47,48,49,50,51,52,53,54,55,56,57,58,59,60,61,62,63],[55]⟩,⟨(some 55),(.load 23 (.tmp 54)),23,(some (some 48,false))⟩),
 (⟨[56,2,2,48],[43,44,45,46,47,48,49,50,51,52,53,54,55,56,57,58,59,60,61,62,63],[56]⟩,⟨(some 56),(.move (.tmp 2)),23,(some (some 48,false))⟩),
 (⟨[57,7,7,48],[43,44,45,46,47,48,49,50,51,52,53,54,55,56,57,58,59,60,61,62,63],[57]⟩,⟨(some 57),(.move (.tmp 7)),3,(some (some 48,false))⟩),
 (⟨[58,56,57,2,7,48],[43,44,45,46,47,48,49,50,51,52,53,54,55,56,57,58,59,60,61,62,63],[58]⟩,⟨(some 58),(.indexAddr 23 (.tmp 56) (.tmp 57)),0,(some (some 48,false))⟩),
 (⟨[59,58,2,48],[43,44,45,46,47,48,49,50,51,52,53,54,55,56,57,58,59,60,61,62,63],[59]⟩,⟨(some 59),(.load 3 (.tmp 58)),3,(some (some 48,false))⟩),
 (⟨[60,55,59,4,2,48],[43,44,45,46,47,48,49,50,51,52,53,54,55,56,57,58,59,60,61,62,63],[60]⟩,⟨(some 60),(.indexAddr 23 (.tmp 55) (.tmp 59)),0,(some (some 48,false))⟩),
 (⟨[61,60,4,48],[43,44,45,46,47,48,49,50,51,52,53,54,55,56,57,58,59,60,61,62,63],[61]⟩,⟨(some 61),(.load 3 (.tmp 60)),3,(some (some 48,false))⟩),
 (⟨[62,53,61,3,4,48],[43,44,45,46,47,48,49,50,51,52,53,54,55,56,57,58,59,60,61,62,63],[62]⟩,⟨(some 62),(.binOp .neq 3 (.tmp 53) (.tmp 61) 3),4,(some (some 48,false))⟩),
 (⟨[63,48,62,47,62],[43,44,45,46,47,48,49,50,51,52,53,54,55,56,57,58,59,60,61,62,63],[63]⟩,⟨(some 63),(.pick (.tmp 48) (.const (.bool true)) (.tmp 62)),4,none⟩)])
 (.cond (.tmp 63)
 (.seq
 (.ops [
 ⟨(some 6),(.assign (.const (.bool false))),4,none⟩])
 .ret)
 .skip))
 (.seq
 (.ops [
 ⟨(some 64),(.move (.tmp 8)),100,none⟩,
 ⟨(some 65),(.call ⟨(.builtin .len), #[(.tmp 64)], #[100]⟩),3,none⟩,
 ⟨(some 66),(.move (.const (.int .i64 0))),3,none⟩])
 (.block 2
 A2P))))))
 (.ops [
 ⟨(some 85),(.binOp .add 3 (.tmp 30) (.const (.int .i64 1)) 3),3,none⟩,
 ⟨(some 30),(.move (.tmp 85)),3,none⟩])))
def A2Q:SC:= .loop rO
def k39:SC:=
 .seq
 (.ops [
 ⟨(some 3),(.box 31 (.tmp 0)),0,none⟩,
 ⟨(some 4),(.box 31 (.tmp 1)),0,none⟩,
 ⟨(some 6),(.assign (.const (.bool false))),4,none⟩])
 (.seq
 (.seq
 (.ops [
 ⟨(some 12),(.move (.tmp 2)),23,none⟩,
 ⟨(some 13),(.call ⟨(.builtin .len), #[(.tmp 12)], #[23]⟩),3,none⟩,
 ⟨(some 14),(.fieldAddr 31 (.tmp 3) 0),0,none⟩,
 ⟨(some 15),(.load 29 (.tmp 14)),29,none⟩,
 ⟨(some 16),(.call ⟨(.builtin .len), #[(.tmp 15)], #[29]⟩),3,none⟩,
 ⟨(some 17),(.binOp .neq 3 (.tmp 13) (.tmp 16) 3),4,none⟩,
 ⟨(some 18),(.move (.tmp 17)),4,none⟩,
 ⟨(some 19),(.move (.tmp 2)),23,(some (some 18,false))⟩,
 ⟨(some 20),(.fieldAddr 31 (.tmp 4) 0),0,(some (some 18,false))⟩,
 ⟨(some 21),(.load 29 (.tmp 20)),29,(some (some 18,false))⟩,
 ⟨(some 22),(.call ⟨(.builtin .len), #[(.tmp 21)], #[29]⟩),3,(some (some 18,false))⟩,
 ⟨(some 23),(.binOp .sub 3 (.tmp 22) (.const (.int .i64 1)) 3),3,(some (some 18,false))⟩,
 ⟨(some 24),(.call ⟨(.value (.func 83)), #[(.tmp 19),(.const (.int .i64 0)),(.tmp 23)], #[23,3,3]⟩),4,(some (some 18,false))⟩,
 ⟨(some 25),(.unOp .not 4 (.tmp 24)),4,(some (some 18,false))⟩,
 ⟨(some 26),(.pick (.tmp 18) (.const (.bool true)) (.tmp 25)),4,none⟩])
 (.cond (.tmp 26)
 (.seq
 (.ops [
 ⟨(some 6),(.assign (.const (.bool false))),4,none⟩])
 .ret)
 .skip))
 (.seq
 (.seq
 (.ops [
 ⟨(some 27),(.fieldAddr 31 (.tmp 3) 0),0,none⟩,
 ⟨(some 28),(.load 29 (.tmp 27)),29,none⟩,
 ⟨(some 29),(.call ⟨(.builtin .len), #[(.tmp 28)], #[29]⟩),3,none⟩,
 ⟨(some 30),(.move (.const (.int .i64 0))),3,none⟩])
 (.block 0
 A2Q))
 (.seq
 (.ops [
 ⟨(some 6),(.assign (.const (.bool true))),4,none⟩])
 .ret)))
theorem A2R:Try.f39.body.map (Bh lends)=some k39:=by kernel_rfl
theorem AHH:CB Try.f39 3=true:=by kernel_rfl
theorem c39{a l:List D}{r:D×List D}(h:Bq Y.env k39 (fin AX l.length [ResultVar.tmp 6] r) (entry a l))(ha:a.length=3):Y.call 39 a l=some r:=
 AU (Y:=Y) rfl Try.func39 (ha▸AHH) A2R h
def k34:SC:=
 .seq
 (.ops [
 ⟨(some 3),(.box 31 (.tmp 0)),0,none⟩,
 ⟨(some 4),(.box 31 (.tmp 1)),0,none⟩,
 ⟨(some 6),(.assign (.const (.bool false))),4,none⟩,
 ⟨(some 7),(.assign (.const (.bool false))),4,none⟩])
 (.seq
 (.seq
 (.ops [
 ⟨(some 8),(.load 31 (.tmp 3)),31,none⟩,
 ⟨(some 9),(.call ⟨(.value (.func 33)), #[(.tmp 8)], #[31]⟩),4,none⟩,
 ⟨(some 10),(.unOp .not 4 (.tmp 9)),4,none⟩,
 ⟨(some 11),(.move (.tmp 10)),4,none⟩,
 ⟨(some 12),(.load 31 (.tmp 4)),31,(some (some 11,false))⟩,
 ⟨(some 13),(.call ⟨(.value (.func 33)), #[(.tmp 12)], #[31]⟩),4,(some (some 11,false))⟩,
 ⟨(some 14),(.unOp .not 4 (.tmp 13)),4,(some (some 11,false))⟩,
 ⟨(some 15),(.pick (.tmp 11) (.const (.bool true)) (.tmp 14)),4,none⟩])
 (.cond (.tmp 15)
 (.seq
 (.ops [
 ⟨(some 6),(.assign (.const (.bool false))),4,none⟩,
 ⟨(some 7),(.assign (.const (.bool false))),4,none⟩])
 .ret)
 .skip))
 (.seq
 (.ops [
 ⟨(some 16),(.load 31 (.tmp 3)),31,none⟩,
 ⟨(some 17),(.load 31 (.tmp 4)),31,none⟩,
 ⟨(some 18),(.move (.tmp 2)),23,none⟩,
 ⟨(some 19),(.call ⟨(.value (.func 73)), #[(.tmp 16),(.tmp 17),(.tmp 18)], #[31,31,23]⟩),4,none⟩,
 ⟨(some 20),(.move (.tmp 19)),4,none⟩,
 ⟨(some 21),(.load 31 (.tmp 4)),31,(some (some 20,true))⟩,
 ⟨(some 22),(.move (.tmp 2)),23,(some (some 20,true))⟩,
 ⟨(some 23),(.call ⟨(.value (.func 74)), #[(.tmp 21),(.tmp 22)], #[31,23]⟩),4,(some (some 20,true))⟩,
 ⟨(some 24),(.pick (.tmp 20) (.tmp 23) (.const (.bool false))),4,none⟩,
 ⟨(some 6),(.assign (.tmp 24)),4,none⟩,
 ⟨(some 7),(.assign (.const (.bool true))),4,none⟩])
 .ret))
theorem A2S:Try.f34.body.map (Bh lends)=some k34:=by kernel_rfl
theorem AHI:CB Try.f34 3=true:=by kernel_rfl
theorem VZ{a l:List D}{r:D×List D}(h:Bq Y.env k34 (fin AX l.length [ResultVar.tmp 6,ResultVar.tmp 7] r) (entry a l))(ha:a.length=3):Y.call 34 a l=some r:=
 AU (Y:=Y) rfl Try.func34 (ha▸AHI) A2S h
def k9:SC:=
 .seq
 (.ops [
 ⟨(some 3),(.box 31 (.tmp 0)),0,none⟩,
 ⟨(some 4),(.box 31 (.tmp 1)),0,none⟩,
 ⟨(some 6),(.assign (.const (.bool false))),4,none⟩,
 ⟨(some 7),(.assign (.const (.bool false))),4,none⟩])
 (.seq
 (.seq
 (.ops [
 ⟨(some 10),(.load 31 (.tmp 3)),31,none⟩,
 ⟨(some 11),(.call ⟨(.value (.func 33)), #[(.tmp 10)], #[31]⟩),4,none⟩,
 ⟨(some 12),(.unOp .not 4 (.tmp 11)),4,none⟩,
 ⟨(some 13),(.move (.tmp 12)),4,none⟩,
 ⟨(some 14),(.load 31 (.tmp 4)),31,(some (some 13,false))⟩,
 ⟨(some 15),(.call ⟨(.value (.func 33)), #[(.tmp 14)], #[31]⟩),4,(some (some 13,false))⟩,
 ⟨(some 16),(.unOp .not 4 (.tmp 15)),4,(some (some 13,false))⟩,
 ⟨(some 17),(.pick (.tmp 13) (.const (.bool true)) (.tmp 16)),4,none⟩])
 (.cond (.tmp 17)
 (.seq
 (.ops [
 ⟨(some 6),(.assign (.const (.bool false))),4,none⟩,
 ⟨(some 7),(.assign (.const (.bool false))),4,none⟩])
 .ret)
 .skip))
 (.seq
 (.ops [
 ⟨(some 19),(.load 31 (.tmp 4)),31,none⟩,
 ⟨(some 20),(.load 31 (.tmp 3)),31,none⟩,
 ⟨(some 21),(.move (.tmp 2)),23,none⟩,
 ⟨(some 22),(.call ⟨(.value (.func 34)), #[(.tmp 19),(.tmp 20),(.tmp 21)], #[31,31,23]⟩),27,none⟩,
 ⟨(some 18),(.move (.tmp 22)),27,none⟩,
 ⟨(some 23),(.extract (.tmp 18) 0),4,none⟩,
 ⟨(some 24),(.extract (.tmp 18) 1),4,none⟩,
 ⟨(some 8),(.assign (.tmp 23)),4,none⟩,
 ⟨(some 9),(.assign (.tmp 24)),4,none⟩])
 (.seq
 (.ops [
 ⟨(some 25),(.move (.tmp 9)),4,none⟩,
 ⟨(some 26),(.move (.tmp 25)),4,none⟩,
 ⟨(some 27),(.move (.tmp 8)),4,(some (some 26,true))⟩,
 ⟨(some 28),(.pick (.tmp 26) (.tmp 27) (.const (.bool false))),4,none⟩,
 ⟨(some 29),(.move (.tmp 28)),4,none⟩,
 ⟨(some 30),(.load 31 (.tmp 4)),31,(some (some 29,true))⟩,
 ⟨(some 31),(.call ⟨(.value (.func 35)), #[(.tmp 30)], #[31]⟩),4,(some (some 29,true))⟩,
 ⟨(some 32),(.pick (.tmp 29) (.tmp 31) (.const (.bool false))),4,none⟩,
 ⟨(some 33),(.move (.tmp 32)),4,none⟩,
 ⟨(some 34),(.fieldAddr 31 (.tmp 4) 0),0,(some (some 33,true))⟩,
 ⟨(some 35),(.load 29 (.tmp 34)),29,(some (some 33,true))⟩,
 ⟨(some 36),(.call ⟨(.builtin .len), #[(.tmp 35)], #[29]⟩),3,(some (some 33,true))⟩,
 ⟨(some 37),(.fieldAddr 31 (.tmp 3) 0),0,(some (some 33,true))⟩,
 ⟨(some 38),(.load 29 (.tmp 37)),29,(some (some 33,true))⟩,
 ⟨(some 39),(.call ⟨(.builtin .len), #[(.tmp 38)], #[29]⟩),3,(some (some 33,true))⟩,
 ⟨(some 40),(.binOp .gtr 3 (.tmp 36) (.tmp 39) 3),4,(some (some 33,true))⟩,
 ⟨(some 41),(.pick (.tmp 33) (.tmp 40) (.const (.bool false))),4,none⟩,
 ⟨(some 6),(.assign (.tmp 41)),4,none⟩,
 ⟨(some 7),(.assign (.const (.bool true))),4,none⟩])
 .ret)))
theorem AAe:Try.f9.body.map (Bh lends)=some k9:=by kernel_rfl
theorem ok9:CB Try.f9 3=true:=by kernel_rfl
theorem c9{a l:List D}{r:D×List D}(h:Bq Y.env k9 (fin AX l.length [ResultVar.tmp 6,ResultVar.tmp 7] r) (entry a l))(ha:a.length=3):Y.call 9 a l=some r:=
 AU (Y:=Y) rfl Try.func9 (ha▸ok9) AAe h
end Go.Proofs.Ytipfckompmhljaa
