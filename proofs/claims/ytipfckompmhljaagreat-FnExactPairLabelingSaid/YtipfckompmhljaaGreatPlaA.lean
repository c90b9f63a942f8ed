/- Labelings with a pair: lifted. Conditions: none. -/
import Derived.Test.YtipfckompmhljaaGreatL6
import Derived.Test.YtipfckompmhljaaGreatZep
import Derived.Test.YtipfckompmhljaaGreatNis
import Derived.Test.YtipfckompmhljaaGreatCon
import Derived.Test.YtipfckompmhljaaGreatRep
import Derived.Test.YtipfckompmhljaaGreatDstA
namespace Go.Proofs.YtipfckompmhljaaGreat
open Go Dv
set_option linter.unusedSimpArgs false
set_option linter.unusedVariables false
set_option maxRecDepth 100000
set_option maxHeartbeats 4000000
noncomputable def CH(A2:List (List (Int×Int)))(AB A3:List Int)(BB:(List Int))(B1:Int)(Gn:(List Int))(out1:List Int)(NI:Int):Option (((List Int)×Int)⊕((List Int))):=
 if NI<(Gn.length:Int)then
  ck (0≤NI∧NI.toNat<Gn.length)<|
  if 0≤(Gn.getD NI.toNat default)then
   ck (0≤NI∧NI.toNat<out1.length)<|
   some (Sum.inl ((out1.set NI.toNat B1),IntKind.i64.wrap (NI+1)))
  else
   some (Sum.inl (out1,IntKind.i64.wrap (NI+1)))
 else
  some (Sum.inr out1)
noncomputable def Ed(A2:List (List (Int×Int)))(AB A3:List Int)(BB:(List Int))(B1:Int)(Gn:(List Int))(v:(List Int)×Int):Option ((List Int)):=DT (fun v=>CH A2 AB A3 BB B1 Gn v.1 v.2) v
noncomputable def CI(A2:List (List (Int×Int)))(AB A3:List Int)(BB:(List Int))(out:List Int)(B1:Int):Option (((List Int)×Int)⊕((List Int))):=
 if B1<(BB.length:Int)then
  ck (0≤B1∧B1.toNat<out.length)<|
  if 0≤(out.getD B1.toNat default)then
   some (Sum.inl (out,IntKind.i64.wrap (B1+1)))
  else
   (Cx A2 AB A3 B1).bind fun Gn=>
   (Ed A2 AB A3 BB B1 Gn (out,0)).bind fun Lk=>
   some (Sum.inl (Lk,IntKind.i64.wrap (B1+1)))
 else
  some (Sum.inr out)
noncomputable def Ga(A2:List (List (Int×Int)))(AB A3:List Int)(BB:(List Int))(v:(List Int)×Int):Option ((List Int)):=DT (fun v=>CI A2 AB A3 BB v.1 v.2) v
noncomputable def H5(A2:List (List (Int×Int)))(AB A3:List Int):Option ((List Int)):=
 (nF [(-1)] (A2.length:Int)).bind fun BB=>
 (Ga A2 AB A3 BB (BB,0)).bind fun FF=>
 some FF
def Ul:SC:=
 .seq
 (.ops [
 ⟨some 27, .binOp .lss 3 (.tmp 26) (.tmp 25) 3,0,none⟩])
 (.seq
 (.cond (.tmp 27)
 .skip
 (.exit 2))
 (.seq
 (.block 3
 (.seq
 (.ops [
 ⟨some 28, .move (.tmp 26),3,none⟩,
 ⟨some 29, .indexAddr 26 (.tmp 24) (.tmp 26),0,none⟩,
 ⟨some 30, .load 3 (.tmp 29),3,none⟩,
 ⟨some 5, .assign (.tmp 28),3,none⟩,
 ⟨some 6, .assign (.tmp 30),3,none⟩])
 (.seq
 (.ops [
 ⟨some 31, .move (.tmp 6),3,none⟩,
 ⟨some 32, .binOp .geq 3 (.tmp 31) (.const (.int .i64 0)) 3,4,none⟩])
 (.cond (.tmp 32)
 (.ops [
 ⟨some 33, .move (.tmp 3),26,none⟩,
 ⟨some 34, .move (.tmp 5),3,none⟩,
 ⟨some 35, .move (.tmp 4),3,none⟩,
 ⟨some 36, .indexAddr 26 (.tmp 33) (.tmp 34),0,none⟩,
 ⟨none, .store 3 (.tmp 36) (.tmp 35),0,none⟩])
 .skip))))
 (.ops [
 ⟨some 37, .binOp .add 3 (.tmp 26) (.const (.int .i64 1)) 3,3,none⟩,
 ⟨some 26, .move (.tmp 37),3,none⟩])))
def eM:SC:= .loop Ul
def Um:SC:=
 .seq
 (.ops [
 ⟨some 15, .binOp .lss 3 (.tmp 14) (.tmp 13) 3,0,none⟩])
 (.seq
 (.cond (.tmp 15)
 .skip
 (.exit 0))
 (.seq
 (.block 1
 (.seq
 (.ops [
 ⟨some 16, .move (.tmp 14),3,none⟩,
 ⟨some 4, .assign (.tmp 16),3,none⟩])
 (.seq
 (.seq
 (.ops [
 ⟨some 17, .move (.tmp 3),26,none⟩,
 ⟨some 18, .move (.tmp 4),3,none⟩,
 ⟨some 19, .indexAddr 26 (.tmp 17) (.tmp 18),0,none⟩,
 ⟨some 20, .load 3 (.tmp 19),3,none⟩,
 ⟨some 21, .binOp .geq 3 (.tmp 20) (.const (.int .i64 0)) 3,4,none⟩])
 (.cond (.tmp 21)
 (.exit 1)
 .skip))
 (.seq
 (.ops [
 ⟨some 22, .load 37 (.tmp 1),37,none⟩,
 ⟨some 23, .move (.tmp 4),3,none⟩,
 ⟨some 24, .call ⟨(.value (.func 46)), #[(.tmp 22),(.tmp 23)], #[37,3]⟩,26,none⟩,
 ⟨some 25, .call ⟨(.builtin .len), #[(.tmp 24)], #[26]⟩,3,none⟩,
 ⟨some 26, .move (.const (.int .i64 0)),3,none⟩])
 (.block 2
 eM)))))
 (.ops [
 ⟨some 38, .binOp .add 3 (.tmp 14) (.const (.int .i64 1)) 3,3,none⟩,
 ⟨some 14, .move (.tmp 38),3,none⟩])))
def eN:SC:= .loop Um
def k45:SC:=
 .seq
 (.ops [
 ⟨some 1, .box 37 (.tmp 0),0,none⟩,
 ⟨some 2, .assign (.const (.slice none 0 0)),26,none⟩])
 (.seq
 (.ops [
 ⟨some 7, .buildSlice 26 1 #[(0,(.const (.int .i64 (-1))))],26,none⟩,
 ⟨some 8, .fieldAddr 37 (.tmp 1) 0,0,none⟩,
 ⟨some 9, .load 35 (.tmp 8),35,none⟩,
 ⟨some 10, .call ⟨(.builtin .len), #[(.tmp 9)], #[35]⟩,3,none⟩,
 ⟨some 11, .call ⟨(.value (.func 48)), #[(.tmp 7),(.tmp 10)], #[26,3]⟩,26,none⟩,
 ⟨some 3, .assign (.tmp 11),26,none⟩])
 (.seq
 (.seq
 (.ops [
 ⟨some 12, .move (.tmp 3),26,none⟩,
 ⟨some 13, .call ⟨(.builtin .len), #[(.tmp 12)], #[26]⟩,3,none⟩,
 ⟨some 14, .move (.const (.int .i64 0)),3,none⟩])
 (.block 0
 eN))
 (.seq
 (.ops [
 ⟨some 39, .move (.tmp 3),26,none⟩,
 ⟨some 2, .assign (.tmp 39),26,none⟩])
 .ret)))
theorem nK:Tryz.f45.body.map (Am lends)=some k45:=by kernel_rfl
theorem A4z:As Tryz.f45 1=true:=by kernel_rfl
theorem c45{a l:List D}{r:D×List D}(h:Av Y.env k45 (fin AJ l.length [ResultVar.tmp 2] r) (entry a l))(ha:a.length=1):Y.call 45 a l=some r:=
 AC (Y:=Y) rfl Tryz.func45 (ha▸A4z) nK h
def Bm(A2:List (List (Int×Int)))(AB A3:List Int)(BB:(List Int))(B1:Int)(Gn:(List Int))(out1:List Int)(NI:Int)(s:St):Prop:=s.v 1=D.box [D.sl 52 (A9 (fun x=>D.sl 82 (AO .i64 .i64 x)) A2),D.sl 3 (A9 (D.int .i64) AB),D.sl 3 (A9 (D.int .i64) A3)]∧s.v 3=D.own 3 (A9 (D.int .i64) out1)∧s.v 4=D.int .i64 B1∧s.v 13=D.int .i64 (BB.length:Int)∧s.v 14=D.int .i64 B1∧s.v 24=D.own 3 (A9 (D.int .i64) Gn)∧s.v 25=D.int .i64 (Gn.length:Int)∧s.v 26=D.int .i64 NI
def FK(A2:List (List (Int×Int)))(AB A3:List Int)(BB:(List Int))(B1:Int)(Gn:(List Int))(r:(List Int))(ex:Ex)(s:St):Prop:=ex= .exit 2∧s.v 1=D.box [D.sl 52 (A9 (fun x=>D.sl 82 (AO .i64 .i64 x)) A2),D.sl 3 (A9 (D.int .i64) AB),D.sl 3 (A9 (D.int .i64) A3)]∧s.v 3=D.own 3 (A9 (D.int .i64) r)∧s.v 13=D.int .i64 (BB.length:Int)∧s.v 14=D.int .i64 B1
theorem M9(A2:List (List (Int×Int)))(AB A3:List Int)(BB:(List Int))(B1:Int)(Gn:(List Int)){v:(List Int)×Int}{s:St}{r:(List Int)}(h:Ed A2 AB A3 BB B1 Gn v=some r)(hM:Bm A2 AB A3 BB B1 Gn v.1 v.2 s):Av Y.env eM (FK A2 AB A3 BB B1 Gn r) s:=by
 unfold Ed at h
 refine Aa (c:=Ul) (fun v=>CH A2 AB A3 BB B1 Gn v.1 v.2) (fun v s=>Bm A2 AB A3 BB B1 Gn v.1 v.2 s) (FK A2 AB A3 BB B1 Gn) ?_ h hM
 clear h hM s v r
 intro v s o hM h
 obtain⟨out1,NI⟩:=v
 dsimp only at h hM
 unfold CH at h
 unfold Bm at hM
 obtain⟨m0,m1,m2,m3,m4,m5,m6,m7⟩:=hM
 unfold Ul
 by_cases e6:NI<(Gn.length:Int)
 ·rw [if_pos e6]at h
  obtain⟨e7,h⟩:=Ae h
  by_cases e8:0≤(Gn.getD NI.toNat default)
  ·rw [if_pos e8]at h
   obtain⟨e9,h⟩:=Ae h
   cases h
   simp (maxDischargeDepth:=9) only [↓A8,A1,AE,A6,AA,↓reduceIte,Nat.reduceEqDiff,Nat.reduceLT,m0,m1,m2,m3,m4,m5,m6,m7,e6,e7.1,e7.2,e8,e9.2,Bm,Ei]
  ·rw [if_neg e8]at h
   cases h
   simp (maxDischargeDepth:=9) only [↓A8,A1,AE,A6,AA,↓reduceIte,Nat.reduceEqDiff,Nat.reduceLT,m0,m1,m2,m3,m4,m5,m6,m7,e6,e7.1,e7.2,e8,Bm,Ei]
 ·rw [if_neg e6]at h
  cases h
  simp (maxDischargeDepth:=9) only [↓A8,A1,AA,↓reduceIte,Nat.reduceEqDiff,Nat.reduceLT,m0,m1,m3,m4,m6,m7,e6,Bm,FK,Ge]
def Bn(A2:List (List (Int×Int)))(AB A3:List Int)(BB:(List Int))(out:List Int)(B1:Int)(s:St):Prop:=s.v 1=D.box [D.sl 52 (A9 (fun x=>D.sl 82 (AO .i64 .i64 x)) A2),D.sl 3 (A9 (D.int .i64) AB),D.sl 3 (A9 (D.int .i64) A3)]∧s.v 3=D.own 3 (A9 (D.int .i64) out)∧s.v 13=D.int .i64 (BB.length:Int)∧s.v 14=D.int .i64 B1
def FM(A2:List (List (Int×Int)))(AB A3:List Int)(BB:(List Int))(r:(List Int))(ex:Ex)(s:St):Prop:=ex= .exit 0∧s.v 3=D.own 3 (A9 (D.int .i64) r)
theorem MA(A2:List (List (Int×Int)))(AB A3:List Int)(BB:(List Int)){v:(List Int)×Int}{s:St}{r:(List Int)}(h:Ga A2 AB A3 BB v=some r)(hM:Bn A2 AB A3 BB v.1 v.2 s):Av Y.env eN (FM A2 AB A3 BB r) s:=by
 unfold Ga at h
 refine Aa (c:=Um) (fun v=>CI A2 AB A3 BB v.1 v.2) (fun v s=>Bn A2 AB A3 BB v.1 v.2 s) (FM A2 AB A3 BB) ?_ h hM
 clear h hM s v r
 intro v s o hM h
 obtain⟨out,B1⟩:=v
 dsimp only at h hM
 unfold CI at h
 unfold Bn at hM
 obtain⟨m0,m1,m2,m3⟩:=hM
 unfold Um
 by_cases e2:B1<(BB.length:Int)
 ·rw [if_pos e2]at h
  obtain⟨e3,h⟩:=Ae h
  by_cases e4:0≤(out.getD B1.toNat default)
  ·rw [if_pos e4]at h
   cases h
   simp (maxDischargeDepth:=9) only [↓A8,A1,AE,A6,AA,↓reduceIte,Nat.reduceEqDiff,Nat.reduceLT,m0,m1,m2,m3,e2,e3.1,e3.2,e4,Bn,Ei]
  ·rw [if_neg e4]at h
   obtain⟨Gn,hl5,h⟩:=AL h
   try dsimp only at h
   have c5:=Hm A2 AB A3 B1 hl5
   obtain⟨Lk,hl7,h⟩:=AL h
   try dsimp only at h
   simp (maxDischargeDepth:=9) only [↓A8,A1,AE,Ap,A6,AA,↓reduceIte,Nat.reduceEqDiff,Nat.reduceLT,Nat.reduceAdd,m0,m1,m2,m3,e2,e3.1,e3.2,e4,c5]
   refine AP (M9 A2 AB A3 BB B1 Gn hl7 ?_) ?_
   ·simp (maxDischargeDepth:=9) only [A1,↓reduceIte,Nat.reduceEqDiff,m0,m1,m2,m3,Bm]
   ·intro ex7 s7 hX7
    unfold FK at hX7
    obtain⟨rfl,n7_0,n7_1,n7_2,n7_3⟩:=hX7
    cases h
    simp (maxDischargeDepth:=9) only [↓A8,A1,AA,↓reduceIte,Nat.reduceEqDiff,Nat.reduceLT,n7_0,n7_1,n7_2,n7_3,Bn,Ei]
 ·rw [if_neg e2]at h
  cases h
  simp (maxDischargeDepth:=9) only [↓A8,A1,AA,↓reduceIte,Nat.reduceEqDiff,Nat.reduceLT,m1,m2,m3,e2,Bn,FM,Ge]
theorem NJ(A2:List (List (Int×Int)))(AB A3:List Int){r:(List Int)}(h:H5 A2 AB A3=some r):Y.call 45 [D.agg [D.sl 52 (A9 (fun x=>D.sl 82 (AO .i64 .i64 x)) A2),D.sl 3 (A9 (D.int .i64) AB),D.sl 3 (A9 (D.int .i64) A3)]] []=some (D.own 3 (A9 (D.int .i64) r),[]):=by
 refine c45 ?_ rfl
 unfold k45
 unfold H5 at h
 obtain⟨BB,hl1,h⟩:=AL h
 try dsimp only at h
 have c1:=Qt [(-1)] (A2.length:Int) hl1
 simp only [EY,PA]at c1
 obtain⟨FF,hl3,h⟩:=AL h
 try dsimp only at h
 simp (maxDischargeDepth:=9) only [↓A8,A1,AE,Ap,A6,AA,↓reduceIte,Nat.reduceEqDiff,Nat.reduceLT,Nat.reduceLeDiff,Nat.reduceAdd,Int.reduceNeg,c1]
 refine AP (MA A2 AB A3 BB hl3 ?_) ?_
 ·simp (maxDischargeDepth:=9) only [A1,↓reduceIte,Nat.reduceEqDiff,Int.reduceNeg,Bn]
 ·intro ex3 s3 hX3
  unfold FM at hX3
  obtain⟨rfl,n3_0⟩:=hX3
  cases h
  simp (maxDischargeDepth:=9) only [↓A8,A1,AE,A6,↓reduceIte,Nat.reduceEqDiff,Nat.reduceLT,n3_0]
noncomputable def Bf(A2:List (List (Int×Int)))(AZ:Int)(out1:List (Int×Int×Int×Int))(DS:Int):Option (((List (Int×Int×Int×Int))×Int)⊕((List (Int×Int×Int×Int)))):=
 if DS<((A2.getD AZ.toNat default).length:Int)then
  ck (0≤DS∧DS.toNat<(A2.getD AZ.toNat default).length)<|
  if AZ<(An (A2.getD AZ.toNat default) DS.toNat)then
   ck (out1.length*4+4<1099511627776)<|
   some (Sum.inl ((out1++[(AZ,DS,(An (A2.getD AZ.toNat default) DS.toNat),(BJ (A2.getD AZ.toNat default) DS.toNat))]),IntKind.i64.wrap (DS+1)))
  else
   if AZ=(An (A2.getD AZ.toNat default) DS.toNat)then
    if DS≤(BJ (A2.getD AZ.toNat default) DS.toNat)then
     ck (out1.length*4+4<1099511627776)<|
     some (Sum.inl ((out1++[(AZ,DS,(An (A2.getD AZ.toNat default) DS.toNat),(BJ (A2.getD AZ.toNat default) DS.toNat))]),IntKind.i64.wrap (DS+1)))
    else
     some (Sum.inl (out1,IntKind.i64.wrap (DS+1)))
   else
    some (Sum.inl (out1,IntKind.i64.wrap (DS+1)))
 else
  some (Sum.inr out1)
noncomputable def Cm(A2:List (List (Int×Int)))(AZ:Int)(v:(List (Int×Int×Int×Int))×Int):Option ((List (Int×Int×Int×Int))):=DT (fun v=>Bf A2 AZ v.1 v.2) v
noncomputable def Bg(A2:List (List (Int×Int)))(out:List (Int×Int×Int×Int))(AZ:Int):Option (((List (Int×Int×Int×Int))×Int)⊕((List (Int×Int×Int×Int)))):=
 if AZ<(A2.length:Int)then
  ck (0≤AZ∧AZ.toNat<A2.length)<|
  (Cm A2 AZ (out,0)).bind fun EV=>
  some (Sum.inl (EV,IntKind.i64.wrap (AZ+1)))
 else
  some (Sum.inr out)
noncomputable def ES(A2:List (List (Int×Int)))(v:(List (Int×Int×Int×Int))×Int):Option ((List (Int×Int×Int×Int))):=DT (fun v=>Bg A2 v.1 v.2) v
noncomputable def Ee(A2:List (List (Int×Int)))(AB A3:List Int):Option ((List (Int×Int×Int×Int))):=
 (ES A2 ([],0)).bind fun Au=>
 some Au
def Un:SC:=
 .seq
 (.ops [
 ⟨some 19, .binOp .lss 3 (.tmp 18) (.tmp 17) 3,0,none⟩])
 (.seq
 (.cond (.tmp 19)
 .skip
 (.exit 2))
 (.seq
 (.block 3
 (.seq
 (.ops [
 ⟨some 20, .move (.tmp 18),3,none⟩,
 ⟨some 21, .indexAddr 52 (.tmp 16) (.tmp 18),0,none⟩,
 ⟨some 22, .load 82 (.tmp 21),82,none⟩,
 ⟨some 7, .alloc 82,0,none⟩,
 ⟨some 6, .assign (.tmp 20),3,none⟩,
 ⟨none, .store 82 (.tmp 7) (.tmp 22),0,none⟩])
 (.seq
 (.ops [
 ⟨some 23, .move (.tmp 4),3,none⟩,
 ⟨some 24, .fieldAddr 82 (.tmp 7) 0,0,none⟩,
 ⟨some 25, .load 3 (.tmp 24),3,none⟩,
 ⟨some 26, .binOp .lss 3 (.tmp 23) (.tmp 25) 3,4,none⟩,
 ⟨some 27, .move (.tmp 26),4,none⟩,
 ⟨some 28, .move (.tmp 4),3,(some (some 27,false))⟩,
 ⟨some 29, .fieldAddr 82 (.tmp 7) 0,0,(some (some 27,false))⟩,
 ⟨some 30, .load 3 (.tmp 29),3,(some (some 27,false))⟩,
 ⟨some 31, .binOp .eql 3 (.tmp 28) (.tmp 30) 3,4,(some (some 27,false))⟩,
 ⟨some 32, .move (.tmp 31),4,(some (some 27,false))⟩,
 ⟨some 33, .move (.tmp 6),3,(some (some 32,true))⟩,
 ⟨some 34, .fieldAddr 82 (.tmp 7) 1,0,(some (some 32,true))⟩,
 ⟨some 35, .load 3 (.tmp 34),3,(some (some 32,true))⟩,
 ⟨some 36, .binOp .leq 3 (.tmp 33) (.tmp 35) 3,4,(some (some 32,true))⟩,
 ⟨some 37, .pick (.tmp 32) (.tmp 36) (.const (.bool false)),4,(some (some 27,false))⟩,
 ⟨some 38, .pick (.tmp 27) (.const (.bool true)) (.tmp 37),4,none⟩])
 (.cond (.tmp 38)
 (.ops [
 ⟨some 39, .move (.tmp 3),71,none⟩,
 ⟨some 40, .move (.tmp 4),3,none⟩,
 ⟨some 41, .move (.tmp 6),3,none⟩,
 ⟨some 42, .fieldAddr 82 (.tmp 7) 0,0,none⟩,
 ⟨some 43, .load 3 (.tmp 42),3,none⟩,
 ⟨some 44, .fieldAddr 82 (.tmp 7) 1,0,none⟩,
 ⟨some 45, .load 3 (.tmp 44),3,none⟩,
 ⟨some 46, .build 74 #[(0,(.tmp 40)),(1,(.tmp 41)),(2,(.tmp 43)),(3,(.tmp 45))],74,none⟩,
 ⟨some 47, .buildSlice 71 1 #[(0,(.tmp 46))],71,none⟩,
 ⟨some 48, .call ⟨(.builtin .append), #[(.tmp 39),(.tmp 47)], #[71,71]⟩,71,none⟩,
 ⟨some 3, .assign (.tmp 48),71,none⟩])
 .skip))))
 (.ops [
 ⟨some 49, .binOp .add 3 (.tmp 18) (.const (.int .i64 1)) 3,3,none⟩,
 ⟨some 18, .move (.tmp 49),3,none⟩])))
def eO:SC:= .loop Un
def Uo:SC:=
 .seq
 (.ops [
 ⟨some 12, .binOp .lss 3 (.tmp 11) (.tmp 10) 3,0,none⟩])
 (.seq
 (.cond (.tmp 12)
 .skip
 (.exit 0))
 (.seq
 (.block 1
 (.seq
 (.ops [
 ⟨some 13, .move (.tmp 11),3,none⟩,
 ⟨some 14, .indexAddr 35 (.tmp 9) (.tmp 11),0,none⟩,
 ⟨some 15, .load 52 (.tmp 14),52,none⟩,
 ⟨some 4, .assign (.tmp 13),3,none⟩,
 ⟨some 5, .assign (.tmp 15),52,none⟩])
 (.seq
 (.ops [
 ⟨some 16, .move (.tmp 5),52,none⟩,
 ⟨some 17, .call ⟨(.builtin .len), #[(.tmp 16)], #[52]⟩,3,none⟩,
 ⟨some 18, .move (.const (.int .i64 0)),3,none⟩])
 (.block 2
 eO))))
 (.ops [
 ⟨some 50, .binOp .add 3 (.tmp 11) (.const (.int .i64 1)) 3,3,none⟩,
 ⟨some 11, .move (.tmp 50),3,none⟩])))
def eP:SC:= .loop Uo
def k47:SC:=
 .seq
 (.ops [
 ⟨some 1, .box 37 (.tmp 0),0,none⟩,
 ⟨some 2, .assign (.const (.slice none 0 0)),71,none⟩])
 (.seq
 (.ops [
 ⟨some 3, .assign (.const (.slice none 0 0)),71,none⟩])
 (.seq
 (.seq
 (.ops [
 ⟨some 8, .fieldAddr 37 (.tmp 1) 0,0,none⟩,
 ⟨some 9, .load 35 (.tmp 8),35,none⟩,
 ⟨some 10, .call ⟨(.builtin .len), #[(.tmp 9)], #[35]⟩,3,none⟩,
 ⟨some 11, .move (.const (.int .i64 0)),3,none⟩])
 (.block 0
 eP))
 (.seq
 (.ops [
 ⟨some 51, .move (.tmp 3),71,none⟩,
 ⟨some 2, .assign (.tmp 51),71,none⟩])
 .ret)))
theorem nL:Tryz.f47.body.map (Am lends)=some k47:=by kernel_rfl
theorem A52:As Tryz.f47 1=true:=by kernel_rfl
theorem c47{a l:List D}{r:D×List D}(h:Av Y.env k47 (fin AJ l.length [ResultVar.tmp 2] r) (entry a l))(ha:a.length=1):Y.call 47 a l=some r:=
 AC (Y:=Y) rfl Tryz.func47 (ha▸A52) nL h
def Az(A2:List (List (Int×Int)))(AZ:Int)(out1:List (Int×Int×Int×Int))(DS:Int)(s:St):Prop:=s.v 3=D.own 74 (EE out1)∧s.v 4=D.int .i64 AZ∧s.v 9=D.sl 52 (A9 (fun x=>D.sl 82 (AO .i64 .i64 x)) A2)∧s.v 10=D.int .i64 (A2.length:Int)∧s.v 11=D.int .i64 AZ∧s.v 16=D.sl 82 (AO .i64 .i64 (A2.getD AZ.toNat default))∧s.v 17=D.int .i64 ((A2.getD AZ.toNat default).length:Int)∧s.v 18=D.int .i64 DS
def DA(A2:List (List (Int×Int)))(AZ:Int)(r:(List (Int×Int×Int×Int)))(ex:Ex)(s:St):Prop:=ex= .exit 2∧s.v 3=D.own 74 (EE r)∧s.v 9=D.sl 52 (A9 (fun x=>D.sl 82 (AO .i64 .i64 x)) A2)∧s.v 10=D.int .i64 (A2.length:Int)∧s.v 11=D.int .i64 AZ
theorem KM(A2:List (List (Int×Int)))(AZ:Int){v:(List (Int×Int×Int×Int))×Int}{s:St}{r:(List (Int×Int×Int×Int))}(h:Cm A2 AZ v=some r)(hM:Az A2 AZ v.1 v.2 s):Av Y.env eO (DA A2 AZ r) s:=by
 unfold Cm at h
 refine Aa (c:=Un) (fun v=>Bf A2 AZ v.1 v.2) (fun v s=>Az A2 AZ v.1 v.2 s) (DA A2 AZ) ?_ h hM
 clear h hM s v r
 intro v s o hM h
 obtain⟨out1,DS⟩:=v
 dsimp only at h hM
 unfold Bf at h
 unfold Az at hM
 obtain⟨m0,m1,m2,m3,m4,m5,m6,m7⟩:=hM
 unfold Un
 by_cases e3:DS<((A2.getD AZ.toNat default).length:Int)
 ·rw [if_pos e3]at h
  obtain⟨e4,h⟩:=Ae h
  by_cases e5:AZ<(An (A2.getD AZ.toNat default) DS.toNat)
  ·rw [if_pos e5]at h
   obtain⟨e6,h⟩:=Ae h
   cases h
   simp (maxDischargeDepth:=9) only [↓A8,A1,Ap,A6,AA,↓reduceIte,Nat.reduceEqDiff,Nat.reduceLT,Nat.reduceLeDiff,Nat.reduceAdd,m0,m1,m2,m3,m4,m5,m6,m7,e3,e4.1,e4.2,e5,e6,Az,Ei]
  ·rw [if_neg e5]at h
   by_cases e6:AZ=(An (A2.getD AZ.toNat default) DS.toNat)
   ·rw [if_pos e6]at h
    by_cases e7:DS≤(BJ (A2.getD AZ.toNat default) DS.toNat)
    ·rw [if_pos e7]at h
     obtain⟨e8,h⟩:=Ae h
     cases h
     simp (maxDischargeDepth:=9) only [↓A8,A1,Ap,A6,AA,↓reduceIte,Nat.reduceEqDiff,Nat.reduceLT,Nat.reduceLeDiff,Nat.reduceAdd,m0,m1,m2,m3,m4,m5,m6,m7,e3,e4.1,e4.2,e5,decide_eq_true e6,e7,e8,Az,Ei]
    ·rw [if_neg e7]at h
     cases h
     simp (maxDischargeDepth:=9) only [↓A8,A1,Ap,A6,AA,↓reduceIte,Nat.reduceEqDiff,Nat.reduceLT,Nat.reduceAdd,m0,m1,m2,m3,m4,m5,m6,m7,e3,e4.1,e4.2,e5,decide_eq_true e6,e7,Az,Ei]
   ·rw [if_neg e6]at h
    cases h
    simp (maxDischargeDepth:=9) only [↓A8,A1,Ap,A6,AA,↓reduceIte,Nat.reduceEqDiff,Nat.reduceLT,Nat.reduceAdd,m0,m1,m2,m3,m4,m5,m6,m7,e3,e4.1,e4.2,e5,e6,Az,Ei]
 ·rw [if_neg e3]at h
  cases h
  simp (maxDischargeDepth:=9) only [↓A8,A1,AA,↓reduceIte,Nat.reduceEqDiff,Nat.reduceLT,m0,m2,m3,m4,m6,m7,e3,Az,DA,Ge]
def Bh(A2:List (List (Int×Int)))(out:List (Int×Int×Int×Int))(AZ:Int)(s:St):Prop:=s.v 3=D.own 74 (EE out)∧s.v 9=D.sl 52 (A9 (fun x=>D.sl 82 (AO .i64 .i64 x)) A2)∧s.v 10=D.int .i64 (A2.length:Int)∧s.v 11=D.int .i64 AZ
def DB(A2:List (List (Int×Int)))(r:(List (Int×Int×Int×Int)))(ex:Ex)(s:St):Prop:=ex= .exit 0∧s.v 3=D.own 74 (EE r)
theorem KN(A2:List (List (Int×Int))){v:(List (Int×Int×Int×Int))×Int}{s:St}{r:(List (Int×Int×Int×Int))}(h:ES A2 v=some r)(hM:Bh A2 v.1 v.2 s):Av Y.env eP (DB A2 r) s:=by
 unfold ES at h
 refine Aa (c:=Uo) (fun v=>Bg A2 v.1 v.2) (fun v s=>Bh A2 v.1 v.2 s) (DB A2) ?_ h hM
 clear h hM s v r
 intro v s o hM h
 obtain⟨out,AZ⟩:=v
 dsimp only at h hM
 unfold Bg at h
 unfold Bh at hM
 obtain⟨m0,m1,m2,m3⟩:=hM
 unfold Uo
 by_cases e1:AZ<(A2.length:Int)
 ·rw [if_pos e1]at h
  obtain⟨e2,h⟩:=Ae h
  obtain⟨EV,hl4,h⟩:=AL h
  try dsimp only at h
  simp (maxDischargeDepth:=9) only [↓A8,A1,AE,Ap,A6,AA,↓reduceIte,Nat.reduceEqDiff,Nat.reduceLT,m1,m2,m3,e1,e2.1,e2.2]
  refine AP (KM A2 AZ hl4 ?_) ?_
  ·simp (maxDischargeDepth:=9) only [A1,↓reduceIte,Nat.reduceEqDiff,m0,m1,m2,m3,Az]
  ·intro ex4 s4 hX4
   unfold DA at hX4
   obtain⟨rfl,n4_0,n4_1,n4_2,n4_3⟩:=hX4
   cases h
   simp (maxDischargeDepth:=9) only [↓A8,A1,AA,↓reduceIte,Nat.reduceEqDiff,Nat.reduceLT,n4_0,n4_1,n4_2,n4_3,Bh,Ei]
 ·rw [if_neg e1]at h
  cases h
  simp (maxDischargeDepth:=9) only [↓A8,A1,AA,↓reduceIte,Nat.reduceEqDiff,Nat.reduceLT,m0,m2,m3,e1,Bh,DB,Ge]
theorem L7(A2:List (List (Int×Int)))(AB A3:List Int){r:(List (Int×Int×Int×Int))}(h:Ee A2 AB A3=some r):Y.call 47 [D.agg [D.sl 52 (A9 (fun x=>D.sl 82 (AO .i64 .i64 x)) A2),D.sl 3 (A9 (D.int .i64) AB),D.sl 3 (A9 (D.int .i64) A3)]] []=some (D.own 74 (EE r),[]):=by
 refine c47 ?_ rfl
 unfold k47
 unfold Ee at h
 obtain⟨Au,hl2,h⟩:=AL h
 try dsimp only at h
 simp (maxDischargeDepth:=9) only [↓A8,A1,AE,A6,AA,↓reduceIte,Nat.reduceEqDiff,Nat.reduceLT,Nat.reduceAdd]
 refine AP (KN A2 hl2 ?_) ?_
 ·simp (maxDischargeDepth:=9) only [A1,↓reduceIte,Nat.reduceEqDiff,Bh]<;>(repeat' apply And.intro)<;>first | rfl | exact⟨_,rfl⟩ | exact⟨_,_,rfl⟩ | simp [A9,Aq]
 ·intro ex2 s2 hX2
  unfold DB at hX2
  obtain⟨rfl,n2_0⟩:=hX2
  cases h
  simp (maxDischargeDepth:=9) only [↓A8,A1,Ap,A6,↓reduceIte,Nat.reduceEqDiff,Nat.reduceLT,n2_0]
noncomputable def Bq(A2:List (List (Int×Int)))(AB A3:List Int)(FN:(List Int))(out:List Int)(BA:Int):Option (((List Int)×Int)⊕((List Int))):=
 if BA<(FN.length:Int)then
  ck (0≤BA∧BA.toNat<FN.length)<|
  (Cx A2 AB A3 (FN.getD BA.toNat default)).bind fun HG=>
  ck (0≤BA∧BA.toNat<HG.length)<|
  ck (out.length+1<1099511627776)<|
  some (Sum.inl ((out++[((HG.getD BA.toNat default).tmod 2)]),IntKind.i64.wrap (BA+1)))
 else
  some (Sum.inr out)
noncomputable def DC(A2:List (List (Int×Int)))(AB A3:List Int)(FN:(List Int))(v:(List Int)×Int):Option ((List Int)):=DT (fun v=>Bq A2 AB A3 FN v.1 v.2) v
noncomputable def Br(K5:(List Int))(HG:(List (Int×Int×Int×Int)))(BT:Int):Option ((Int)⊕(Unit⊕Unit)):=
 if BT<(HG.length:Int)then
  ck (0≤BT∧BT.toNat<HG.length)<|
  ck (0≤(av HG BT.toNat)∧(av HG BT.toNat).toNat<K5.length)<|
  ck (0≤(aw HG BT.toNat)∧(aw HG BT.toNat).toNat<K5.length)<|
  if(K5.getD ((av HG BT.toNat).toNat) default)=(K5.getD ((aw HG BT.toNat).toNat) default)then
   some (Sum.inr (Sum.inl ()))
  else
   some (Sum.inl (IntKind.i64.wrap (BT+1)))
 else
  some (Sum.inr (Sum.inr ()))
noncomputable def DD(K5:(List Int))(HG:(List (Int×Int×Int×Int)))(v:Int):Option (Unit⊕Unit):=DT (fun v=>Br K5 HG v) v
noncomputable def FY(A2:List (List (Int×Int)))(AB A3:List Int):Option ((List Int)×Bool):=
 ck (BH A2)<|
 ck (AB.length<1099511627776)<|
 ck (A3.length<1099511627776)<|
 if(CG A2 AB A3)=true then
  (H5 A2 AB A3).bind fun FN=>
  (DC A2 AB A3 FN ([],0)).bind fun K5=>
  (Ee A2 AB A3).bind fun HG=>
  (DD K5 HG 0).bind fun Yn=>
  match Yn with
  | .inl q11_=>
   some ([],false)
  | .inr q11_=>
   some (K5,true)
 else
  some ([],false)
def Up:SC:=
 .seq
 (.ops [
 ⟨some 16, .binOp .lss 3 (.tmp 15) (.tmp 14) 3,0,none⟩])
 (.seq
 (.cond (.tmp 16)
 .skip
 (.exit 0))
 (.seq
 (.block 1
 (.seq
 (.ops [
 ⟨some 17, .move (.tmp 15),3,none⟩,
 ⟨some 18, .indexAddr 26 (.tmp 13) (.tmp 15),0,none⟩,
 ⟨some 19, .load 3 (.tmp 18),3,none⟩,
 ⟨some 5, .assign (.tmp 17),3,none⟩,
 ⟨some 6, .assign (.tmp 19),3,none⟩])
 (.ops [
 ⟨some 20, .move (.tmp 4),26,none⟩,
 ⟨some 21, .load 37 (.tmp 1),37,none⟩,
 ⟨some 22, .move (.tmp 6),3,none⟩,
 ⟨some 23, .call ⟨(.value (.func 46)), #[(.tmp 21),(.tmp 22)], #[37,3]⟩,26,none⟩,
 ⟨some 24, .move (.tmp 5),3,none⟩,
 ⟨some 25, .indexAddr 26 (.tmp 23) (.tmp 24),0,none⟩,
 ⟨some 26, .load 3 (.tmp 25),3,none⟩,
 ⟨some 27, .binOp .rem 3 (.tmp 26) (.const (.int .i64 2)) 3,3,none⟩,
 ⟨some 28, .buildSlice 26 1 #[(0,(.tmp 27))],26,none⟩,
 ⟨some 29, .call ⟨(.builtin .append), #[(.tmp 20),(.tmp 28)], #[26,26]⟩,26,none⟩,
 ⟨some 4, .assign (.tmp 29),26,none⟩])))
 (.ops [
 ⟨some 30, .binOp .add 3 (.tmp 15) (.const (.int .i64 1)) 3,3,none⟩,
 ⟨some 15, .move (.tmp 30),3,none⟩])))
def eQ:SC:= .loop Up
def Uq:SC:=
 .seq
 (.ops [
 ⟨some 35, .binOp .lss 3 (.tmp 34) (.tmp 33) 3,0,none⟩])
 (.seq
 (.cond (.tmp 35)
 .skip
 (.exit 2))
 (.seq
 (.block 3
 (.seq
 (.ops [
 ⟨some 36, .indexAddr 71 (.tmp 32) (.tmp 34),0,none⟩,
 ⟨some 37, .load 74 (.tmp 36),74,none⟩,
 ⟨some 8, .alloc 74,0,none⟩,
 ⟨none, .store 74 (.tmp 8) (.tmp 37),0,none⟩])
 (.seq
 (.draws [
 (⟨[38,4,4],[38,39,40,41,42,43,44,45,46,47,48],[38]⟩,⟨some 38, .move (.tmp 4),26,none⟩),
 (⟨[39,8,8],[38,39,40,41,42,43,44,45,46,47,48],[39]⟩,⟨some 39, .fieldAddr 74 (.tmp 8) 0,0,none⟩),
 (⟨[40,39,8],[38,39,40,41,42,43,44,45,46,47,48],[40]⟩,⟨some 40, .load 3 (.tmp 39),3,none⟩),
 (⟨[41,38,40,4,8],[38,39,40,41,42,43,44,45,46,47,48],[41]⟩,⟨some 41, .indexAddr 26 (.tmp 38) (.tmp 40),0,none⟩),
 (⟨[42,41,4],[38,39,40,41,42,43,44,45,46,47,48],[42]⟩,⟨some 42, .load 3 (.tmp 41),3,none⟩),
 (⟨[43,4,4],[38,39,40,41,42,43,44,45,46,47,48],[43]⟩,⟨some 43, .move (.tmp 4),26,none⟩),
 (⟨[44,8,8],[38,39,40,41,42,43,44,45,46,47,48],[44]⟩,⟨some 44, .fieldAddr 74 (.tmp 8) 2,0,none⟩),
 (⟨[45,44,8],[38,39,40,41,42,43,44,45,46,47,48],[45]⟩,⟨some 45, .load 3 (.tmp 44),3,none⟩),
 (⟨[46,43,45,4,8],[38,39,40,41,42,43,44,45,46,47,48],[46]⟩,⟨some 46, .indexAddr 26 (.tmp 43) (.tmp 45),0,none⟩),
 (⟨[47,46,4],[38,39,40,41,42,43,44,45,46,47,48],[47]⟩,⟨some 47, .load 3 (.tmp 46),3,none⟩),
 (⟨[48,42,47,4,4],[38,39,40,41,42,43,44,45,46,47,48],[48]⟩,⟨some 48, .binOp .eql 3 (.tmp 42) (.tmp 47) 3,4,none⟩)])
 (.cond (.tmp 48)
 (.seq
 (.ops [
 ⟨some 2, .assign (.const (.slice none 0 0)),26,none⟩,
 ⟨some 3, .assign (.const (.bool false)),4,none⟩])
 .ret)
 .skip))))
 (.ops [
 ⟨some 49, .binOp .add 3 (.tmp 34) (.const (.int .i64 1)) 3,3,none⟩,
 ⟨some 34, .move (.tmp 49),3,none⟩])))
def eR:SC:= .loop Uq
def k27:SC:=
 .seq
 (.ops [
 ⟨some 1, .box 37 (.tmp 0),0,none⟩,
 ⟨some 2, .assign (.const (.slice none 0 0)),26,none⟩,
 ⟨some 3, .assign (.const (.bool false)),4,none⟩])
 (.seq
 (.seq
 (.ops [
 ⟨some 9, .load 37 (.tmp 1),37,none⟩,
 ⟨some 10, .call ⟨(.value (.func 44)), #[(.tmp 9)], #[37]⟩,4,none⟩,
 ⟨some 11, .unOp .not 4 (.tmp 10),4,none⟩])
 (.cond (.tmp 11)
 (.seq
 (.ops [
 ⟨some 2, .assign (.const (.slice none 0 0)),26,none⟩,
 ⟨some 3, .assign (.const (.bool false)),4,none⟩])
 .ret)
 .skip))
 (.seq
 (.ops [
 ⟨some 4, .assign (.const (.slice none 0 0)),26,none⟩])
 (.seq
 (.seq
 (.ops [
 ⟨some 12, .load 37 (.tmp 1),37,none⟩,
 ⟨some 13, .call ⟨(.value (.func 45)), #[(.tmp 12)], #[37]⟩,26,none⟩,
 ⟨some 14, .call ⟨(.builtin .len), #[(.tmp 13)], #[26]⟩,3,none⟩,
 ⟨some 15, .move (.const (.int .i64 0)),3,none⟩])
 (.block 0
 eQ))
 (.seq
 (.seq
 (.ops [
 ⟨some 31, .load 37 (.tmp 1),37,none⟩,
 ⟨some 32, .call ⟨(.value (.func 47)), #[(.tmp 31)], #[37]⟩,71,none⟩,
 ⟨some 33, .call ⟨(.builtin .len), #[(.tmp 32)], #[71]⟩,3,none⟩,
 ⟨some 34, .move (.const (.int .i64 0)),3,none⟩])
 (.block 2
 eR))
 (.seq
 (.ops [
 ⟨some 50, .move (.tmp 4),26,none⟩,
 ⟨some 2, .assign (.tmp 50),26,none⟩,
 ⟨some 3, .assign (.const (.bool true)),4,none⟩])
 .ret)))))
theorem nM:Tryz.f27.body.map (Am lends)=some k27:=by kernel_rfl
theorem A55:As Tryz.f27 1=true:=by kernel_rfl
theorem c27{a l:List D}{r:D×List D}(h:Av Y.env k27 (fin AJ l.length [ResultVar.tmp 2,ResultVar.tmp 3] r) (entry a l))(ha:a.length=1):Y.call 27 a l=some r:=
 AC (Y:=Y) rfl Tryz.func27 (ha▸A55) nM h
def Bs(A2:List (List (Int×Int)))(AB A3:List Int)(FN:(List Int))(out:List Int)(BA:Int)(s:St):Prop:=s.v 1=D.box [D.sl 52 (A9 (fun x=>D.sl 82 (AO .i64 .i64 x)) A2),D.sl 3 (A9 (D.int .i64) AB),D.sl 3 (A9 (D.int .i64) A3)]∧s.v 4=D.own 3 (A9 (D.int .i64) out)∧s.v 13=D.own 3 (A9 (D.int .i64) FN)∧s.v 14=D.int .i64 (FN.length:Int)∧s.v 15=D.int .i64 BA
def DV(A2:List (List (Int×Int)))(AB A3:List Int)(FN:(List Int))(r:(List Int))(ex:Ex)(s:St):Prop:=ex= .exit 0∧s.v 1=D.box [D.sl 52 (A9 (fun x=>D.sl 82 (AO .i64 .i64 x)) A2),D.sl 3 (A9 (D.int .i64) AB),D.sl 3 (A9 (D.int .i64) A3)]∧s.v 4=D.own 3 (A9 (D.int .i64) r)
theorem L8(A2:List (List (Int×Int)))(AB A3:List Int)(FN:(List Int)){v:(List Int)×Int}{s:St}{r:(List Int)}(h:DC A2 AB A3 FN v=some r)(hM:Bs A2 AB A3 FN v.1 v.2 s):Av Y.env eQ (DV A2 AB A3 FN r) s:=by
 unfold DC at h
 refine Aa (c:=Up) (fun v=>Bq A2 AB A3 FN v.1 v.2) (fun v s=>Bs A2 AB A3 FN v.1 v.2 s) (DV A2 AB A3 FN) ?_ h hM
 clear h hM s v r
 intro v s o hM h
 obtain⟨out,BA⟩:=v
 dsimp only at h hM
 unfold Bq at h
 unfold Bs at hM
 obtain⟨m0,m1,m2,m3,m4⟩:=hM
 unfold Up
 by_cases e7:BA<(FN.length:Int)
 ·rw [if_pos e7]at h
  obtain⟨e8,h⟩:=Ae h
  obtain⟨HG,hl9,h⟩:=AL h
  try dsimp only at h
  have c9:=Hm A2 AB A3 (FN.getD BA.toNat default) hl9
  obtain⟨e10,h⟩:=Ae h
  obtain⟨e11,h⟩:=Ae h
  cases h
  simp (maxDischargeDepth:=9) only [↓A8,A1,AE,Ap,A6,AA,↓reduceIte,Nat.reduceEqDiff,Nat.reduceLT,Nat.reduceLeDiff,Nat.reduceAdd,Int.reduceEq,m0,m1,m2,m3,m4,e7,e8.1,e8.2,c9,e10.2,e11,Bs,Ei]
 ·rw [if_neg e7]at h
  cases h
  simp (maxDischargeDepth:=9) only [↓A8,A1,AA,↓reduceIte,Nat.reduceEqDiff,Nat.reduceLT,m0,m1,m3,m4,e7,Bs,DV,Ge]
def BU(K5:(List Int))(HG:(List (Int×Int×Int×Int)))(BT:Int)(s:St):Prop:=s.v 4=D.own 3 (A9 (D.int .i64) K5)∧s.v 32=D.own 74 (EE HG)∧s.v 33=D.int .i64 (HG.length:Int)∧s.v 34=D.int .i64 BT
def Bt(K5:(List Int))(HG:(List (Int×Int×Int×Int)))(r:Unit⊕Unit)(ex:Ex)(s:St):Prop:=match r with
 | .inl q=>ex= .ret∧s.v 2=D.own 3 []∧s.v 3=D.bool false
 | .inr q=>ex= .exit 2∧s.v 4=D.own 3 (A9 (D.int .i64) K5)
theorem L9(K5:(List Int))(HG:(List (Int×Int×Int×Int))){v:Int}{s:St}{r:Unit⊕Unit}(h:DD K5 HG v=some r)(hM:BU K5 HG v s):Av Y.env eR (Bt K5 HG r) s:=by
 unfold DD at h
 refine Aa (c:=Uq) (fun v=>Br K5 HG v) (fun v s=>BU K5 HG v s) (Bt K5 HG) ?_ h hM
 clear h hM s v r
 intro BT s o hM h
 unfold Br at h
 unfold BU at hM
 obtain⟨m0,m1,m2,m3⟩:=hM
 unfold Uq
 by_cases e10:BT<(HG.length:Int)
 ·rw [if_pos e10]at h
  obtain⟨e11,h⟩:=Ae h
  obtain⟨e12,h⟩:=Ae h
  obtain⟨e13,h⟩:=Ae h
  by_cases e14:(K5.getD ((av HG BT.toNat).toNat) default)=(K5.getD ((aw HG BT.toNat).toNat) default)
  ·rw [if_pos e14]at h
   cases h
   simp (maxDischargeDepth:=9) only [↓A8,A1,AE,Ap,A6,AA,↓reduceIte,Nat.reduceEqDiff,Nat.reduceLT,Nat.reduceAdd,Nat.reduceBEq,m0,m1,m2,m3,e10,e11.1,e11.2,e12.1,e12.2,e13.1,e13.2,decide_eq_true e14,BU,Bt,Ho]
  ·rw [if_neg e14]at h
   cases h
   simp (maxDischargeDepth:=9) only [↓A8,A1,AE,Ap,A6,AA,↓reduceIte,Nat.reduceEqDiff,Nat.reduceLT,Nat.reduceAdd,Nat.reduceBEq,m0,m1,m2,m3,e10,e11.1,e11.2,e12.1,e12.2,e13.1,e13.2,e14,BU,Ei]
 ·rw [if_neg e10]at h
  cases h
  simp (maxDischargeDepth:=9) only [↓A8,A1,AA,↓reduceIte,Nat.reduceEqDiff,Nat.reduceLT,m0,m2,m3,e10,BU,Bt,Ge]
theorem Lb(A2:List (List (Int×Int)))(AB A3:List Int){r:(List Int)×Bool}(h:FY A2 AB A3=some r):Y.call 27 [D.agg [D.sl 52 (A9 (fun x=>D.sl 82 (AO .i64 .i64 x)) A2),D.sl 3 (A9 (D.int .i64) AB),D.sl 3 (A9 (D.int .i64) A3)]] []=some (D.tup [D.own 3 (A9 (D.int .i64) r.1),D.bool r.2],[]):=by
 refine c27 ?_ rfl
 unfold k27
 unfold FY at h
 obtain⟨e1,h⟩:=Ae h
 obtain⟨e2,h⟩:=Ae h
 obtain⟨e3,h⟩:=Ae h
 have c4:=Qr A2 AB A3 e1 e2 e3
 by_cases e5:(CG A2 AB A3)=true
 ·rw [if_pos e5]at h
  obtain⟨FN,hl6,h⟩:=AL h
  try dsimp only at h
  have c6:=NJ A2 AB A3 hl6
  obtain⟨K5,hl8,h⟩:=AL h
  try dsimp only at h
  simp (maxDischargeDepth:=9) only [↓A8,A1,AE,Ap,A6,AA,↓reduceIte,Nat.reduceEqDiff,Nat.reduceLT,Nat.reduceAdd,c4,e5,c6]
  refine AP (L8 A2 AB A3 FN hl8 ?_) ?_
  ·simp (maxDischargeDepth:=9) only [A1,↓reduceIte,Nat.reduceEqDiff,Bs]<;>(repeat' apply And.intro)<;>first | rfl | exact⟨_,rfl⟩ | exact⟨_,_,rfl⟩ | simp [A9,Aq]
  ·intro ex8 s8 hX8
   unfold DV at hX8
   obtain⟨rfl,n8_0,n8_1⟩:=hX8
   obtain⟨HG,hl9,h⟩:=AL h
   try dsimp only at h
   have c9:=L7 A2 AB A3 hl9
   obtain⟨Yn,hl11,h⟩:=AL h
   try dsimp only at h
   simp (maxDischargeDepth:=9) only [↓A8,A1,Ap,A6,AA,↓reduceIte,Nat.reduceEqDiff,Nat.reduceAdd,n8_0,c9]
   refine AP (L9 K5 HG hl11 ?_) ?_
   ·simp (maxDischargeDepth:=9) only [A1,↓reduceIte,Nat.reduceEqDiff,n8_1,BU]
   ·intro ex11 s11 hX11
    rcases Yn with q11_ | q11_
    ·unfold Bt at hX11
     dsimp only at hX11 h
     obtain⟨rfl,n11_0,n11_1⟩:=hX11
     cases h
     simp (maxDischargeDepth:=9) only [↓A8,A1,A6,↓reduceIte,Nat.reduceEqDiff,n11_0,n11_1]<;>(repeat' apply And.intro)<;>first | rfl | exact⟨_,rfl⟩ | exact⟨_,_,rfl⟩ | simp [A9,Aq]
    ·unfold Bt at hX11
     dsimp only at hX11 h
     obtain⟨rfl,n11_0⟩:=hX11
     cases h
     simp (maxDischargeDepth:=9) only [↓A8,A1,AE,A6,AA,↓reduceIte,Nat.reduceEqDiff,Nat.reduceLT,n11_0]
 ·rw [if_neg e5]at h
  have e5f:(CG A2 AB A3)=false:=Bool.eq_false_iff.mpr e5
  cases h
  simp (maxDischargeDepth:=9) only [↓A8,A1,Ap,A6,AA,↓reduceIte,Nat.reduceEqDiff,Nat.reduceLT,Nat.reduceAdd,c4,e5f]<;>(repeat' apply And.intro)<;>first | rfl | exact⟨_,rfl⟩ | exact⟨_,_,rfl⟩ | simp [A9,Aq]
noncomputable def FZ(list:List Int)(ports:Int):Option ((List Int)):=
 if ports=(list.length:Int)then
  ck (list.length<1099511627776)<|
  some list
 else
  ck (1≤list.length)<|
  (nF ((list.take 1).drop 0) ports).bind fun FF=>
  some FF
def k28:SC:=
 .seq
 (.ops [
 ⟨some 4, .assign (.const (.slice none 0 0)),26,none⟩])
 (.seq
 (.seq
 (.ops [
 ⟨some 5, .move (.tmp 1),3,none⟩,
 ⟨some 6, .move (.tmp 0),26,none⟩,
 ⟨some 7, .call ⟨(.builtin .len), #[(.tmp 6)], #[26]⟩,3,none⟩,
 ⟨some 8, .binOp .eql 3 (.tmp 5) (.tmp 7) 3,4,none⟩])
 (.cond (.tmp 8)
 (.seq
 (.ops [
 ⟨some 9, .move (.tmp 0),26,none⟩,
 ⟨some 10, .call ⟨(.value (.func 43)), #[(.tmp 9)], #[26]⟩,26,none⟩,
 ⟨some 4, .assign (.tmp 10),26,none⟩])
 .ret)
 .skip))
 (.seq
 (.ops [
 ⟨some 11, .move (.tmp 0),26,none⟩,
 ⟨some 12, .slice 26 (.tmp 11) none (some (.const (.int .i64 1))) none,900001,none⟩,
 ⟨some 13, .move (.tmp 1),3,none⟩,
 ⟨some 14, .call ⟨(.value (.func 48)), #[(.tmp 12),(.tmp 13)], #[26,3]⟩,26,none⟩,
 ⟨some 4, .assign (.tmp 14),26,none⟩])
 .ret))
theorem nN:Tryz.f28.body.map (Am lends)=some k28:=by kernel_rfl
theorem A57:As Tryz.f28 2=true:=by kernel_rfl
theorem c28{a l:List D}{r:D×List D}(h:Av Y.env k28 (fin AJ l.length [ResultVar.tmp 4] r) (entry a l))(ha:a.length=2):Y.call 28 a l=some r:=
 AC (Y:=Y) rfl Tryz.func28 (ha▸A57) nN h
theorem O4(list:List Int)(ports:Int){r:(List Int)}(h:FZ list ports=some r):Y.call 28 [D.sl 3 (A9 (D.int .i64) list),D.int .i64 ports] []=some (D.own 3 (A9 (D.int .i64) r),[]):=by
 refine c28 ?_ rfl
 unfold k28
 unfold FZ at h
 by_cases e1:ports=(list.length:Int)
 ·rw [if_pos e1]at h
  obtain⟨e2,h⟩:=Ae h
  have c3:=BM list e2
  cases h
  simp (maxDischargeDepth:=9) only [↓A8,A1,AE,Ap,A6,AA,↓reduceIte,Nat.reduceEqDiff,Nat.reduceLT,Nat.reduceAdd,decide_eq_true e1,c3]
 ·rw [if_neg e1]at h
  obtain⟨e2,h⟩:=Ae h
  obtain⟨FF,hl3,h⟩:=AL h
  try dsimp only at h
  have c3:=Qt ((list.take 1).drop 0) ports hl3
  cases h
  simp (maxDischargeDepth:=9) only [↓A8,A1,AE,Ap,A6,AA,↓reduceIte,Nat.reduceEqDiff,Nat.reduceLT,Nat.reduceAdd,Int.reduceLE,Int.reduceToNat,e1,e2,c3]
noncomputable def Bu(A2:List (List (Int×Int)))(BB:(List Int)×(List Int)×Bool)(Au:(List Int)×Bool)(out:List (List Int))(BT:Int):Option (((List (List Int))×Int)⊕((List (List Int)))):=
 if BT<(A2.length:Int)then
  ck (0≤BT∧BT.toNat<A2.length)<|
  ck (0≤BT∧BT.toNat<Au.1.length)<|
  ck (0≤(Au.1.getD BT.toNat default)∧(Au.1.getD BT.toNat default).toNat<2)<|
  ck (((Au.1.getD BT.toNat default).toNat)<2)<|
  (FZ ([BB.1,BB.2.1].getD ((Au.1.getD BT.toNat default).toNat) default) ((A2.getD BT.toNat default).length:Int)).bind fun de=>
  ck (out.length+1<1099511627776)<|
  some (Sum.inl ((out++[de]),IntKind.i64.wrap (BT+1)))
 else
  some (Sum.inr out)
noncomputable def DE(A2:List (List (Int×Int)))(BB:(List Int)×(List Int)×Bool)(Au:(List Int)×Bool)(v:(List (List Int))×Int):Option ((List (List Int))):=DT (fun v=>Bu A2 BB Au v.1 v.2) v
noncomputable def Fa(pL pD:Int)(pN pE:List (List Int))(A2:List (List (Int×Int)))(AB A3:List Int):Option ((List (List Int))×Bool):=
 (IY pL pD pN pE).bind fun BB=>
 (FY A2 AB A3).bind fun Au=>
 if BB.2.2=true then
  if Au.2=true then
   (DE A2 BB Au ([],0)).bind fun FN=>
   some (FN,true)
  else
   some ([],false)
 else
  some ([],false)
def Yo:SC:=
 .seq
 (.ops [
 ⟨some 35, .binOp .lss 3 (.tmp 34) (.tmp 33) 3,0,none⟩])
 (.seq
 (.cond (.tmp 35)
 .skip
 (.exit 0))
 (.seq
 (.block 1
 (.seq
 (.ops [
 ⟨some 36, .move (.tmp 34),3,none⟩,
 ⟨some 37, .indexAddr 35 (.tmp 32) (.tmp 34),0,none⟩,
 ⟨some 38, .load 52 (.tmp 37),52,none⟩,
 ⟨some 12, .assign (.tmp 36),3,none⟩,
 ⟨some 13, .assign (.tmp 38),52,none⟩])
 (.ops [
 ⟨some 39, .move (.tmp 11),22,none⟩,
 ⟨some 40, .move (.tmp 6),26,none⟩,
 ⟨some 41, .move (.tmp 7),26,none⟩,
 ⟨some 42, .buildSlice 22 2 #[(0,(.tmp 40)),(1,(.tmp 41))],22,none⟩,
 ⟨some 43, .move (.tmp 9),26,none⟩,
 ⟨some 44, .move (.tmp 12),3,none⟩,
 ⟨some 45, .indexAddr 26 (.tmp 43) (.tmp 44),0,none⟩,
 ⟨some 46, .load 3 (.tmp 45),3,none⟩,
 ⟨some 47, .indexAddr 22 (.tmp 42) (.tmp 46),0,none⟩,
 ⟨some 48, .load 26 (.tmp 47),26,none⟩,
 ⟨some 49, .move (.tmp 13),52,none⟩,
 ⟨some 50, .call ⟨(.builtin .len), #[(.tmp 49)], #[52]⟩,3,none⟩,
 ⟨some 51, .call ⟨(.value (.func 28)), #[(.tmp 48),(.tmp 50)], #[26,3]⟩,26,none⟩,
 ⟨some 52, .buildSlice 22 1 #[(0,(.tmp 51))],22,none⟩,
 ⟨some 53, .call ⟨(.builtin .append), #[(.tmp 39),(.tmp 52)], #[22,22]⟩,22,none⟩,
 ⟨some 11, .assign (.tmp 53),22,none⟩])))
 (.ops [
 ⟨some 54, .binOp .add 3 (.tmp 34) (.const (.int .i64 1)) 3,3,none⟩,
 ⟨some 34, .move (.tmp 54),3,none⟩])))
def j7:SC:= .loop Yo
def k9:SC:=
 .seq
 (.ops [
 ⟨some 2, .box 33 (.tmp 0),0,none⟩,
 ⟨some 3, .box 37 (.tmp 1),0,none⟩,
 ⟨some 4, .assign (.const (.slice none 0 0)),22,none⟩,
 ⟨some 5, .assign (.const (.bool false)),4,none⟩])
 (.seq
 (.ops [
 ⟨some 15, .load 33 (.tmp 2),33,none⟩,
 ⟨some 16, .call ⟨(.value (.func 26)), #[(.tmp 15)], #[33]⟩,48,none⟩,
 ⟨some 14, .move (.tmp 16),48,none⟩,
 ⟨some 17, .extract (.tmp 14) 0,26,none⟩,
 ⟨some 18, .extract (.tmp 14) 1,26,none⟩,
 ⟨some 19, .extract (.tmp 14) 2,4,none⟩,
 ⟨some 6, .assign (.tmp 17),900003,none⟩,
 ⟨some 7, .assign (.tmp 18),900003,none⟩,
 ⟨some 8, .assign (.tmp 19),4,none⟩])
 (.seq
 (.ops [
 ⟨some 21, .load 37 (.tmp 3),37,none⟩,
 ⟨some 22, .call ⟨(.value (.func 27)), #[(.tmp 21)], #[37]⟩,50,none⟩,
 ⟨some 20, .move (.tmp 22),50,none⟩,
 ⟨some 23, .extract (.tmp 20) 0,26,none⟩,
 ⟨some 24, .extract (.tmp 20) 1,4,none⟩,
 ⟨some 9, .assign (.tmp 23),26,none⟩,
 ⟨some 10, .assign (.tmp 24),4,none⟩])
 (.seq
 (.seq
 (.ops [
 ⟨some 25, .move (.tmp 8),4,none⟩,
 ⟨some 26, .unOp .not 4 (.tmp 25),4,none⟩,
 ⟨some 27, .move (.tmp 26),4,none⟩,
 ⟨some 28, .move (.tmp 10),4,(some (some 27,false))⟩,
 ⟨some 29, .unOp .not 4 (.tmp 28),4,(some (some 27,false))⟩,
 ⟨some 30, .pick (.tmp 27) (.const (.bool true)) (.tmp 29),4,none⟩])
 (.cond (.tmp 30)
 (.seq
 (.ops [
 ⟨some 4, .assign (.const (.slice none 0 0)),22,none⟩,
 ⟨some 5, .assign (.const (.bool false)),4,none⟩])
 .ret)
 .skip))
 (.seq
 (.ops [
 ⟨some 11, .assign (.const (.slice none 0 0)),22,none⟩])
 (.seq
 (.seq
 (.ops [
 ⟨some 31, .fieldAddr 37 (.tmp 3) 0,0,none⟩,
 ⟨some 32, .load 35 (.tmp 31),35,none⟩,
 ⟨some 33, .call ⟨(.builtin .len), #[(.tmp 32)], #[35]⟩,3,none⟩,
 ⟨some 34, .move (.const (.int .i64 0)),3,none⟩])
 (.block 0
 j7))
 (.seq
 (.ops [
 ⟨some 55, .move (.tmp 11),22,none⟩,
 ⟨some 4, .assign (.tmp 55),22,none⟩,
 ⟨some 5, .assign (.const (.bool true)),4,none⟩])
 .ret))))))
theorem xW:Tryz.f9.body.map (Am lends)=some k9:=by kernel_rfl
theorem ok9:As Tryz.f9 2=true:=by kernel_rfl
theorem c9{a l:List D}{r:D×List D}(h:Av Y.env k9 (fin AJ l.length [ResultVar.tmp 4,ResultVar.tmp 5] r) (entry a l))(ha:a.length=2):Y.call 9 a l=some r:=
 AC (Y:=Y) rfl Tryz.func9 (ha▸ok9) xW h
def Bv(A2:List (List (Int×Int)))(BB:(List Int)×(List Int)×Bool)(Au:(List Int)×Bool)(out:List (List Int))(BT:Int)(s:St):Prop:=s.v 6=D.sl 3 (A9 (D.int .i64) BB.1)∧s.v 7=D.sl 3 (A9 (D.int .i64) BB.2.1)∧s.v 9=D.own 3 (A9 (D.int .i64) Au.1)∧s.v 11=D.own 26 (A9 (fun x=>D.own 3 (A9 (D.int .i64) x)) out)∧s.v 32=D.sl 52 (A9 (fun x=>D.sl 82 (AO .i64 .i64 x)) A2)∧s.v 33=D.int .i64 (A2.length:Int)∧s.v 34=D.int .i64 BT
def DW(A2:List (List (Int×Int)))(BB:(List Int)×(List Int)×Bool)(Au:(List Int)×Bool)(r:(List (List Int)))(ex:Ex)(s:St):Prop:=ex= .exit 0∧s.v 11=D.own 26 (A9 (fun x=>D.own 3 (A9 (D.int .i64) x)) r)
theorem LA(A2:List (List (Int×Int)))(BB:(List Int)×(List Int)×Bool)(Au:(List Int)×Bool){v:(List (List Int))×Int}{s:St}{r:(List (List Int))}(h:DE A2 BB Au v=some r)(hM:Bv A2 BB Au v.1 v.2 s):Av Y.env j7 (DW A2 BB Au r) s:=by
 unfold DE at h
 refine Aa (c:=Yo) (fun v=>Bu A2 BB Au v.1 v.2) (fun v s=>Bv A2 BB Au v.1 v.2 s) (DW A2 BB Au) ?_ h hM
 clear h hM s v r
 intro v s o hM h
 obtain⟨out,BT⟩:=v
 dsimp only at h hM
 unfold Bu at h
 unfold Bv at hM
 obtain⟨m0,m1,m2,m3,m4,m5,m6⟩:=hM
 unfold Yo
 by_cases e5:BT<(A2.length:Int)
 ·rw [if_pos e5]at h
  obtain⟨e6,h⟩:=Ae h
  obtain⟨e7,h⟩:=Ae h
  obtain⟨e8,h⟩:=Ae h
  obtain⟨e9,h⟩:=Ae h
  obtain⟨de,hl10,h⟩:=AL h
  try dsimp only at h
  have OR:=O4 ([BB.1,BB.2.1].getD ((Au.1.getD BT.toNat default).toNat) default) ((A2.getD BT.toNat default).length:Int) hl10
  obtain⟨e11,h⟩:=Ae h
  cases h
  simp (maxDischargeDepth:=9) only [↓A8,A1,AE,Ap,A6,AA,↓reduceIte,Nat.reduceEqDiff,Nat.reduceLT,Nat.reduceLeDiff,Nat.reduceAdd,m0,m1,m2,m3,m4,m5,m6,e5,e6.1,e6.2,e7.2,e8.1,e8.2,OR,e11,Bv,Ei]
 ·rw [if_neg e5]at h
  cases h
  simp (maxDischargeDepth:=9) only [↓A8,A1,AA,↓reduceIte,Nat.reduceEqDiff,Nat.reduceLT,m3,m5,m6,e5,Bv,DW,Ge]
theorem Lc(pL pD:Int)(pN pE:List (List Int))(A2:List (List (Int×Int)))(AB A3:List Int){r:(List (List Int))×Bool}(h:Fa pL pD pN pE A2 AB A3=some r):Y.call 9 [D.agg [D.int .i64 pL,D.int .i64 pD,D.sl 26 (A9 (fun x=>D.sl 3 (A9 (D.int .i64) x)) pN),D.sl 26 (A9 (fun x=>D.sl 3 (A9 (D.int .i64) x)) pE)],D.agg [D.sl 52 (A9 (fun x=>D.sl 82 (AO .i64 .i64 x)) A2),D.sl 3 (A9 (D.int .i64) AB),D.sl 3 (A9 (D.int .i64) A3)]] []=some (D.tup [D.own 26 (A9 (fun x=>D.own 3 (A9 (D.int .i64) x)) r.1),D.bool r.2],[]):=by
 refine c9 ?_ rfl
 unfold k9
 unfold Fa at h
 obtain⟨BB,hl1,h⟩:=AL h
 try dsimp only at h
 have c1:=Oq pL pD pN pE hl1
 obtain⟨Au,hl2,h⟩:=AL h
 try dsimp only at h
 have c2:=Lb A2 AB A3 hl2
 by_cases e3:BB.2.2=true
 ·rw [if_pos e3]at h
  by_cases e4:Au.2=true
  ·rw [if_pos e4]at h
   obtain⟨FN,hl6,h⟩:=AL h
   try dsimp only at h
   simp (maxDischargeDepth:=9) only [↓A8,A1,AE,Ap,A6,AA,↓reduceIte,Nat.reduceEqDiff,Nat.reduceLT,Nat.reduceAdd,c1,c2,e3,e4]
   refine AP (LA A2 BB Au hl6 ?_) ?_
   ·simp (maxDischargeDepth:=9) only [A1,↓reduceIte,Nat.reduceEqDiff,Bv]<;>(repeat' apply And.intro)<;>first | rfl | exact⟨_,rfl⟩ | exact⟨_,_,rfl⟩ | simp [A9,Aq]
   ·intro ex6 s6 hX6
    unfold DW at hX6
    obtain⟨rfl,n6_0⟩:=hX6
    cases h
    simp (maxDischargeDepth:=9) only [↓A8,A1,AE,A6,AA,↓reduceIte,Nat.reduceEqDiff,Nat.reduceLT,n6_0]
  ·rw [if_neg e4]at h
   have e4f:Au.2=false:=Bool.eq_false_iff.mpr e4
   cases h
   simp (maxDischargeDepth:=9) only [↓A8,A1,AE,Ap,A6,AA,↓reduceIte,Nat.reduceEqDiff,Nat.reduceLT,Nat.reduceAdd,c1,c2,e3,e4f]<;>(repeat' apply And.intro)<;>first | rfl | exact⟨_,rfl⟩ | exact⟨_,_,rfl⟩ | simp [A9,Aq]
 ·rw [if_neg e3]at h
  have e3f:BB.2.2=false:=Bool.eq_false_iff.mpr e3
  cases h
  simp (maxDischargeDepth:=9) only [↓A8,A1,AE,Ap,A6,AA,↓reduceIte,Nat.reduceEqDiff,Nat.reduceLT,Nat.reduceAdd,c1,c2,e3f]<;>(repeat' apply And.intro)<;>first | rfl | exact⟨_,rfl⟩ | exact⟨_,_,rfl⟩ | simp [A9,Aq]
noncomputable def FD(r_:Int)(BB:(List Int))(out:List Int)(B1:Int):Option (((List Int)×Int)⊕((List Int))):=
 if B1<(BB.length:Int)then
  ck (0≤B1∧B1.toNat<BB.length)<|
  if(EB (BB.getD B1.toNat default) (0:Int) r_)=true then
   ck (out.length+1<1099511627776)<|
   some (Sum.inl ((out++[B1]),IntKind.i64.wrap (B1+1)))
  else
   some (Sum.inl (out,IntKind.i64.wrap (B1+1)))
 else
  some (Sum.inr out)
noncomputable def J7(r_:Int)(BB:(List Int))(v:(List Int)×Int):Option ((List Int)):=DT (fun v=>FD r_ BB v.1 v.2) v
noncomputable def LB(A2:List (List (Int×Int)))(AB A3:List Int)(v_ r_:Int):Option ((List Int)):=
 (Jd A2 AB A3 v_).bind fun BB=>
 (J7 r_ BB ([],0)).bind fun FF=>
 some FF
def Ur:SC:=
 .seq
 (.ops [
 ⟨some 15, .binOp .lss 3 (.tmp 14) (.tmp 13) 3,0,none⟩])
 (.seq
 (.cond (.tmp 15)
 .skip
 (.exit 0))
 (.seq
 (.block 1
 (.seq
 (.ops [
 ⟨some 16, .move (.tmp 14),3,none⟩,
 ⟨some 17, .indexAddr 26 (.tmp 12) (.tmp 14),0,none⟩,
 ⟨some 18, .load 3 (.tmp 17),3,none⟩,
 ⟨some 8, .assign (.tmp 16),3,none⟩,
 ⟨some 9, .assign (.tmp 18),3,none⟩])
 (.seq
 (.ops [
 ⟨some 19, .move (.tmp 9),3,none⟩,
 ⟨some 20, .move (.tmp 2),3,none⟩,
 ⟨some 21, .call ⟨(.value (.func 51)), #[(.tmp 19),(.const (.int .i64 0)),(.tmp 20)], #[3,3,3]⟩,4,none⟩])
 (.cond (.tmp 21)
 (.ops [
 ⟨some 22, .move (.tmp 7),26,none⟩,
 ⟨some 23, .move (.tmp 8),3,none⟩,
 ⟨some 24, .buildSlice 26 1 #[(0,(.tmp 23))],26,none⟩,
 ⟨some 25, .call ⟨(.builtin .append), #[(.tmp 22),(.tmp 24)], #[26,26]⟩,26,none⟩,
 ⟨some 7, .assign (.tmp 25),26,none⟩])
 .skip))))
 (.ops [
 ⟨some 26, .binOp .add 3 (.tmp 14) (.const (.int .i64 1)) 3,3,none⟩,
 ⟨some 14, .move (.tmp 26),3,none⟩])))
def eS:SC:= .loop Ur
def k71:SC:=
 .seq
 (.ops [
 ⟨some 3, .box 37 (.tmp 0),0,none⟩,
 ⟨some 6, .assign (.const (.slice none 0 0)),26,none⟩])
 (.seq
 (.ops [
 ⟨some 7, .assign (.const (.slice none 0 0)),26,none⟩])
 (.seq
 (.seq
 (.ops [
 ⟨some 10, .load 37 (.tmp 3),37,none⟩,
 ⟨some 11, .move (.tmp 1),3,none⟩,
 ⟨some 12, .call ⟨(.value (.func 57)), #[(.tmp 10),(.tmp 11)], #[37,3]⟩,26,none⟩,
 ⟨some 13, .call ⟨(.builtin .len), #[(.tmp 12)], #[26]⟩,3,none⟩,
 ⟨some 14, .move (.const (.int .i64 0)),3,none⟩])
 (.block 0
 eS))
 (.seq
 (.ops [
 ⟨some 27, .move (.tmp 7),26,none⟩,
 ⟨some 6, .assign (.tmp 27),26,none⟩])
 .ret)))
theorem nO:Tryz.f71.body.map (Am lends)=some k71:=by kernel_rfl
theorem A5A:As Tryz.f71 3=true:=by kernel_rfl
theorem c71{a l:List D}{r:D×List D}(h:Av Y.env k71 (fin AJ l.length [ResultVar.tmp 6] r) (entry a l))(ha:a.length=3):Y.call 71 a l=some r:=
 AC (Y:=Y) rfl Tryz.func71 (ha▸A5A) nO h
def DQ(r_:Int)(BB:(List Int))(out:List Int)(B1:Int)(s:St):Prop:=s.v 2=D.int .i64 r_∧s.v 7=D.own 3 (A9 (D.int .i64) out)∧s.v 12=D.own 3 (A9 (D.int .i64) BB)∧s.v 13=D.int .i64 (BB.length:Int)∧s.v 14=D.int .i64 B1
def HS(r_:Int)(BB:(List Int))(r:(List Int))(ex:Ex)(s:St):Prop:=ex= .exit 0∧s.v 7=D.own 3 (A9 (D.int .i64) r)
theorem R0(r_:Int)(BB:(List Int)){v:(List Int)×Int}{s:St}{r:(List Int)}(h:J7 r_ BB v=some r)(hM:DQ r_ BB v.1 v.2 s):Av Y.env eS (HS r_ BB r) s:=by
 unfold J7 at h
 refine Aa (c:=Ur) (fun v=>FD r_ BB v.1 v.2) (fun v s=>DQ r_ BB v.1 v.2 s) (HS r_ BB) ?_ h hM
 clear h hM s v r
 intro v s o hM h
 obtain⟨out,B1⟩:=v
 dsimp only at h hM
 unfold FD at h
 unfold DQ at hM
 obtain⟨m0,m1,m2,m3,m4⟩:=hM
 unfold Ur
 by_cases e2:B1<(BB.length:Int)
 ·rw [if_pos e2]at h
  obtain⟨e3,h⟩:=Ae h
  have c4:=Gk (BB.getD B1.toNat default) (0:Int) r_
  by_cases e5:(EB (BB.getD B1.toNat default) (0:Int) r_)=true
  ·rw [if_pos e5]at h
   obtain⟨e6,h⟩:=Ae h
   cases h
   simp (maxDischargeDepth:=9) only [↓A8,A1,AE,Ap,A6,AA,↓reduceIte,Nat.reduceEqDiff,Nat.reduceLT,Nat.reduceLeDiff,Nat.reduceAdd,m0,m1,m2,m3,m4,e2,e3.1,e3.2,c4,e5,e6,DQ,Ei]
  ·rw [if_neg e5]at h
   have e5f:(EB (BB.getD B1.toNat default) (0:Int) r_)=false:=Bool.eq_false_iff.mpr e5
   cases h
   simp (maxDischargeDepth:=9) only [↓A8,A1,AE,Ap,A6,AA,↓reduceIte,Nat.reduceEqDiff,Nat.reduceLT,Nat.reduceAdd,m0,m1,m2,m3,m4,e2,e3.1,e3.2,c4,e5f,DQ,Ei]
 ·rw [if_neg e2]at h
  cases h
  simp (maxDischargeDepth:=9) only [↓A8,A1,AA,↓reduceIte,Nat.reduceEqDiff,Nat.reduceLT,m1,m3,m4,e2,DQ,HS,Ge]
theorem Ru(A2:List (List (Int×Int)))(AB A3:List Int)(v_ r_:Int){r:(List Int)}(h:LB A2 AB A3 v_ r_=some r):Y.call 71 [D.agg [D.sl 52 (A9 (fun x=>D.sl 82 (AO .i64 .i64 x)) A2),D.sl 3 (A9 (D.int .i64) AB),D.sl 3 (A9 (D.int .i64) A3)],D.int .i64 v_,D.int .i64 r_] []=some (D.own 3 (A9 (D.int .i64) r),[]):=by
 refine c71 ?_ rfl
 unfold k71
 unfold LB at h
 obtain⟨BB,hl1,h⟩:=AL h
 try dsimp only at h
 have c1:=Lm A2 AB A3 v_ hl1
 obtain⟨FF,hl3,h⟩:=AL h
 try dsimp only at h
 simp (maxDischargeDepth:=9) only [↓A8,A1,AE,Ap,A6,AA,↓reduceIte,Nat.reduceEqDiff,Nat.reduceLT,Nat.reduceAdd,c1]
 refine AP (R0 r_ BB hl3 ?_) ?_
 ·simp (maxDischargeDepth:=9) only [A1,A6,↓reduceIte,Nat.reduceEqDiff,Nat.reduceLT,DQ]<;>(repeat' apply And.intro)<;>first | rfl | exact⟨_,rfl⟩ | exact⟨_,_,rfl⟩ | simp [A9,Aq]
 ·intro ex3 s3 hX3
  unfold HS at hX3
  obtain⟨rfl,n3_0⟩:=hX3
  cases h
  simp (maxDischargeDepth:=9) only [↓A8,A1,AE,A6,↓reduceIte,Nat.reduceEqDiff,Nat.reduceLT,n3_0]
noncomputable def E3(A2:List (List (Int×Int)))(AB A3 out:List Int)(Hp:Int):Option (((List Int)×Int)⊕((List Int))):=
 if Hp<(A2.length:Int)then
  (LB A2 AB A3 Hp (40:Int)).bind fun Au=>
  ck (0<Au.length)<|
  ck (out.length+1<1099511627776)<|
  some (Sum.inl ((out++[(Au.getD 0 default)]),IntKind.i64.wrap (Hp+1)))
 else
  some (Sum.inr out)
noncomputable def I4(A2:List (List (Int×Int)))(AB A3:List Int)(v:(List Int)×Int):Option ((List Int)):=DT (fun v=>E3 A2 AB A3 v.1 v.2) v
noncomputable def Je(A2:List (List (Int×Int)))(AB A3:List Int):Option ((List Int)):=
 (I4 A2 AB A3 ([],0)).bind fun Au=>
 some Au
def Us:SC:=
 .seq
 (.ops [
 ⟨some 9, .binOp .lss 3 (.tmp 8) (.tmp 7) 3,0,none⟩])
 (.seq
 (.cond (.tmp 9)
 .skip
 (.exit 0))
 (.seq
 (.block 1
 (.seq
 (.ops [
 ⟨some 10, .move (.tmp 8),3,none⟩,
 ⟨some 4, .assign (.tmp 10),3,none⟩])
 (.ops [
 ⟨some 11, .move (.tmp 3),26,none⟩,
 ⟨some 12, .load 37 (.tmp 1),37,none⟩,
 ⟨some 13, .move (.tmp 4),3,none⟩,
 ⟨some 14, .call ⟨(.value (.func 71)), #[(.tmp 12),(.tmp 13),(.const (.int .i64 40))], #[37,3,3]⟩,26,none⟩,
 ⟨some 15, .indexAddr 26 (.tmp 14) (.const (.int .i64 0)),0,none⟩,
 ⟨some 16, .load 3 (.tmp 15),3,none⟩,
 ⟨some 17, .buildSlice 26 1 #[(0,(.tmp 16))],26,none⟩,
 ⟨some 18, .call ⟨(.builtin .append), #[(.tmp 11),(.tmp 17)], #[26,26]⟩,26,none⟩,
 ⟨some 3, .assign (.tmp 18),26,none⟩])))
 (.ops [
 ⟨some 19, .binOp .add 3 (.tmp 8) (.const (.int .i64 1)) 3,3,none⟩,
 ⟨some 8, .move (.tmp 19),3,none⟩])))
def eT:SC:= .loop Us
def k56:SC:=
 .seq
 (.ops [
 ⟨some 1, .box 37 (.tmp 0),0,none⟩,
 ⟨some 2, .assign (.const (.slice none 0 0)),26,none⟩])
 (.seq
 (.ops [
 ⟨some 3, .assign (.const (.slice none 0 0)),26,none⟩])
 (.seq
 (.seq
 (.ops [
 ⟨some 5, .fieldAddr 37 (.tmp 1) 0,0,none⟩,
 ⟨some 6, .load 35 (.tmp 5),35,none⟩,
 ⟨some 7, .call ⟨(.builtin .len), #[(.tmp 6)], #[35]⟩,3,none⟩,
 ⟨some 8, .move (.const (.int .i64 0)),3,none⟩])
 (.block 0
 eT))
 (.seq
 (.ops [
 ⟨some 20, .move (.tmp 3),26,none⟩,
 ⟨some 2, .assign (.tmp 20),26,none⟩])
 .ret)))
theorem nP:Tryz.f56.body.map (Am lends)=some k56:=by kernel_rfl
theorem A5C:As Tryz.f56 1=true:=by kernel_rfl
theorem c56{a l:List D}{r:D×List D}(h:Av Y.env k56 (fin AJ l.length [ResultVar.tmp 2] r) (entry a l))(ha:a.length=1):Y.call 56 a l=some r:=
 AC (Y:=Y) rfl Tryz.func56 (ha▸A5C) nP h
def E4(A2:List (List (Int×Int)))(AB A3 out:List Int)(Hp:Int)(s:St):Prop:=s.v 1=D.box [D.sl 52 (A9 (fun x=>D.sl 82 (AO .i64 .i64 x)) A2),D.sl 3 (A9 (D.int .i64) AB),D.sl 3 (A9 (D.int .i64) A3)]∧s.v 3=D.own 3 (A9 (D.int .i64) out)∧s.v 7=D.int .i64 (A2.length:Int)∧s.v 8=D.int .i64 Hp
def H6(A2:List (List (Int×Int)))(AB A3:List Int)(r:(List Int))(ex:Ex)(s:St):Prop:=ex= .exit 0∧s.v 3=D.own 3 (A9 (D.int .i64) r)
theorem P1(A2:List (List (Int×Int)))(AB A3:List Int){v:(List Int)×Int}{s:St}{r:(List Int)}(h:I4 A2 AB A3 v=some r)(hM:E4 A2 AB A3 v.1 v.2 s):Av Y.env eT (H6 A2 AB A3 r) s:=by
 unfold I4 at h
 refine Aa (c:=Us) (fun v=>E3 A2 AB A3 v.1 v.2) (fun v s=>E4 A2 AB A3 v.1 v.2 s) (H6 A2 AB A3) ?_ h hM
 clear h hM s v r
 intro v s o hM h
 obtain⟨out,Hp⟩:=v
 dsimp only at h hM
 unfold E3 at h
 unfold E4 at hM
 obtain⟨m0,m1,m2,m3⟩:=hM
 unfold Us
 by_cases e1:Hp<(A2.length:Int)
 ·rw [if_pos e1]at h
  obtain⟨Au,hl2,h⟩:=AL h
  try dsimp only at h
  have c2:=Ru A2 AB A3 Hp (40:Int) hl2
  obtain⟨e3,h⟩:=Ae h
  obtain⟨e4,h⟩:=Ae h
  cases h
  simp (maxDischargeDepth:=9) only [↓A8,A1,AE,Ap,A6,AA,↓reduceIte,Nat.reduceEqDiff,Nat.reduceLT,Nat.reduceLeDiff,Nat.reduceAdd,m0,m1,m2,m3,e1,c2,e3,e4,E4,Ei]
 ·rw [if_neg e1]at h
  cases h
  simp (maxDischargeDepth:=9) only [↓A8,A1,AA,↓reduceIte,Nat.reduceEqDiff,Nat.reduceLT,m1,m2,m3,e1,E4,H6,Ge]
theorem R1(A2:List (List (Int×Int)))(AB A3:List Int){r:(List Int)}(h:Je A2 AB A3=some r):Y.call 56 [D.agg [D.sl 52 (A9 (fun x=>D.sl 82 (AO .i64 .i64 x)) A2),D.sl 3 (A9 (D.int .i64) AB),D.sl 3 (A9 (D.int .i64) A3)]] []=some (D.own 3 (A9 (D.int .i64) r),[]):=by
 refine c56 ?_ rfl
 unfold k56
 unfold Je at h
 obtain⟨Au,hl2,h⟩:=AL h
 try dsimp only at h
 simp (maxDischargeDepth:=9) only [↓A8,A1,AE,A6,AA,↓reduceIte,Nat.reduceEqDiff,Nat.reduceLT,Nat.reduceAdd]
 refine AP (P1 A2 AB A3 hl2 ?_) ?_
 ·simp (maxDischargeDepth:=9) only [A1,↓reduceIte,Nat.reduceEqDiff,E4]<;>(repeat' apply And.intro)<;>first | rfl | exact⟨_,rfl⟩ | exact⟨_,_,rfl⟩ | simp [A9,Aq]
 ·intro ex2 s2 hX2
  unfold H6 at hX2
  obtain⟨rfl,n2_0⟩:=hX2
  cases h
  simp (maxDischargeDepth:=9) only [↓A8,A1,AE,A6,↓reduceIte,Nat.reduceEqDiff,Nat.reduceLT,n2_0]
noncomputable def G0(A2:List (List (Int×Int)))(AB A3:List Int)(Au:(List Int))(out:List Int)(DS:Int):Option (((List Int)×Int)⊕((List Int))):=
 if DS<((List.replicate A2.length 0).length:Int)then
  ck (0≤DS∧DS.toNat<Au.length)<|
  (Jd A2 AB A3 (Au.getD DS.toNat default)).bind fun Gn=>
  ck (0≤DS∧DS.toNat<Gn.length)<|
  ck (0≤DS∧DS.toNat<out.length)<|
  some (Sum.inl ((out.set DS.toNat ((Gn.getD DS.toNat default).tmod 2)),IntKind.i64.wrap (DS+1)))
 else
  some (Sum.inr out)
noncomputable def Ia(A2:List (List (Int×Int)))(AB A3:List Int)(Au:(List Int))(v:(List Int)×Int):Option ((List Int)):=DT (fun v=>G0 A2 AB A3 Au v.1 v.2) v
noncomputable def G1(A2:List (List (Int×Int)))(AB A3:List Int)(EV:(List Int))(H7:Int)(FN:(List Int))(P2:Int):Option ((Int)⊕(Unit⊕Unit)):=
 if P2<(FN.length:Int)then
  ck (0≤P2∧P2.toNat<FN.length)<|
  ck (0≤H7∧H7.toNat<EV.length)<|
  ck (0≤(FN.getD P2.toNat default)∧(FN.getD P2.toNat default).toNat<EV.length)<|
  if(EV.getD H7.toNat default)=(EV.getD ((FN.getD P2.toNat default).toNat) default)then
   some (Sum.inr (Sum.inl ()))
  else
   some (Sum.inl (IntKind.i64.wrap (P2+1)))
 else
  some (Sum.inr (Sum.inr ()))
noncomputable def Ib(A2:List (List (Int×Int)))(AB A3:List Int)(EV:(List Int))(H7:Int)(FN:(List Int))(v:Int):Option (Unit⊕Unit):=DT (fun v=>G1 A2 AB A3 EV H7 FN v) v
noncomputable def G2(A2:List (List (Int×Int)))(AB A3:List Int)(EV:(List Int))(H7:Int):Option ((Int)⊕(Unit⊕Unit)):=
 if H7<(EV.length:Int)then
  (Jc A2 AB A3 H7).bind fun FN=>
  (Ib A2 AB A3 EV H7 FN 0).bind fun K5=>
  match K5 with
  | .inl q8_=>
   some (Sum.inr (Sum.inl ()))
  | .inr q8_=>
   some (Sum.inl (IntKind.i64.wrap (H7+1)))
 else
  some (Sum.inr (Sum.inr ()))
noncomputable def Ic(A2:List (List (Int×Int)))(AB A3:List Int)(EV:(List Int))(v:Int):Option (Unit⊕Unit):=DT (fun v=>G2 A2 AB A3 EV v) v
noncomputable def PJ(A2:List (List (Int×Int)))(AB A3:List Int):Option ((List Int)×Bool):=
 ck (0≤(A2.length:Int)∧(A2.length:Int)<1099511627776)<|
 (Je A2 AB A3).bind fun Au=>
 (Ia A2 AB A3 Au ((List.replicate A2.length 0),0)).bind fun EV=>
 (Ic A2 AB A3 EV 0).bind fun FN=>
 match FN with
 | .inl q6_=>
  some ([],false)
 | .inr q6_=>
  some (EV,true)
def Ut:SC:=
 .seq
 (.ops [
 ⟨some 19, .binOp .lss 3 (.tmp 18) (.tmp 17) 3,0,none⟩])
 (.seq
 (.cond (.tmp 19)
 .skip
 (.exit 0))
 (.seq
 (.block 1
 (.seq
 (.ops [
 ⟨some 20, .move (.tmp 18),3,none⟩,
 ⟨some 6, .assign (.tmp 20),3,none⟩])
 (.draws [
 (⟨[21,4,4],[21,22,23,24,25,26,27,28,29,30,31,32,33,33,32,4,32],[21]⟩,⟨some 21, .move (.tmp 4),26,none⟩),
 (⟨[22,6,6],[21,22,23,24,25,26,27,28,29,30,31,32,33,33,32,4,32],[22]⟩,⟨some 22, .move (.tmp 6),3,none⟩),
 (⟨[23,1,1],[21,22,23,24,25,26,27,28,29,30,31,32,33,33,32,4,32],[23]⟩,⟨some 23, .load 37 (.tmp 1),37,none⟩),
 (⟨[24,5,5],[21,22,23,24,25,26,27,28,29,30,31,32,33,33,32,4,32],[24]⟩,⟨some 24, .move (.tmp 5),26,none⟩),
 (⟨[25,6,6],[21,22,23,24,25,26,27,28,29,30,31,32,33,33,32,4,32],[25]⟩,⟨some 25, .move (.tmp 6),3,none⟩),
 (⟨[26,24,25,5,6],[21,22,23,24,25,26,27,28,29,30,31,32,33,33,32,4,32],[26]⟩,⟨some 26, .indexAddr 26 (.tmp 24) (.tmp 25),0,none⟩),
 (⟨[27,26,5],[21,22,23,24,25,26,27,28,29,30,31,32,33,33,32,4,32],[27]⟩,⟨some 27, .load 3 (.tmp 26),3,none⟩),
 (⟨[28,23,27,1,5],[21,22,23,24,25,26,27,28,29,30,31,32,33,33,32,4,32],[28]⟩,⟨some 28, .call ⟨(.value (.func 57)), #[(.tmp 23),(.tmp 27)], #[37,3]⟩,26,none⟩),
 (⟨[29,6,6],[21,22,23,24,25,26,27,28,29,30,31,32,33,33,32,4,32],[29]⟩,⟨some 29, .move (.tmp 6),3,none⟩),
 (⟨[30,28,29,28,6],[21,22,23,24,25,26,27,28,29,30,31,32,33,33,32,4,32],[30]⟩,⟨some 30, .indexAddr 26 (.tmp 28) (.tmp 29),0,none⟩),
 (⟨[31,30,28],[21,22,23,24,25,26,27,28,29,30,31,32,33,33,32,4,32],[31]⟩,⟨some 31, .load 3 (.tmp 30),3,none⟩),
 (⟨[32,31,28],[21,22,23,24,25,26,27,28,29,30,31,32,33,33,32,4,32],[32]⟩,⟨some 32, .binOp .rem 3 (.tmp 31) (.const (.int .i64 2)) 3,3,none⟩),
 (⟨[33,21,22,4,6],[21,22,23,24,25,26,27,28,29,30,31,32,33,33,32,4,32],[33]⟩,⟨some 33, .indexAddr 26 (.tmp 21) (.tmp 22),0,none⟩),
 (⟨[33,32,4,32],[21,22,23,24,25,26,27,28,29,30,31,32,33,33,32,4,32],[33,32,4,32]⟩,⟨none, .store 3 (.tmp 33) (.tmp 32),0,none⟩)])))
 (.ops [
 ⟨some 34, .binOp .add 3 (.tmp 18) (.const (.int .i64 1)) 3,3,none⟩,
 ⟨some 18, .move (.tmp 34),3,none⟩])))
def eU:SC:= .loop Ut
def Uu:SC:=
 .seq
 (.ops [
 ⟨some 45, .binOp .lss 3 (.tmp 44) (.tmp 43) 3,0,none⟩])
 (.seq
 (.cond (.tmp 45)
 .skip
 (.exit 4))
 (.seq
 (.block 5
 (.seq
 (.ops [
 ⟨some 46, .indexAddr 26 (.tmp 42) (.tmp 44),0,none⟩,
 ⟨some 47, .load 3 (.tmp 46),3,none⟩,
 ⟨some 9, .assign (.tmp 47),3,none⟩])
 (.seq
 (.draws [
 (⟨[48,4,4],[48,49,50,51,52,53,54,55,56],[48]⟩,⟨some 48, .move (.tmp 4),26,none⟩),
 (⟨[49,7,7],[48,49,50,51,52,53,54,55,56],[49]⟩,⟨some 49, .move (.tmp 7),3,none⟩),
 (⟨[50,48,49,4,7],[48,49,50,51,52,53,54,55,56],[50]⟩,⟨some 50, .indexAddr 26 (.tmp 48) (.tmp 49),0,none⟩),
 (⟨[51,50,4],[48,49,50,51,52,53,54,55,56],[51]⟩,⟨some 51, .load 3 (.tmp 50),3,none⟩),
 (⟨[52,4,4],[48,49,50,51,52,53,54,55,56],[52]⟩,⟨some 52, .move (.tmp 4),26,none⟩),
 (⟨[53,9,9],[48,49,50,51,52,53,54,55,56],[53]⟩,⟨some 53, .move (.tmp 9),3,none⟩),
 (⟨[54,52,53,4,9],[48,49,50,51,52,53,54,55,56],[54]⟩,⟨some 54, .indexAddr 26 (.tmp 52) (.tmp 53),0,none⟩),
 (⟨[55,54,4],[48,49,50,51,52,53,54,55,56],[55]⟩,⟨some 55, .load 3 (.tmp 54),3,none⟩),
 (⟨[56,51,55,4,4],[48,49,50,51,52,53,54,55,56],[56]⟩,⟨some 56, .binOp .eql 3 (.tmp 51) (.tmp 55) 3,4,none⟩)])
 (.cond (.tmp 56)
 (.seq
 (.ops [
 ⟨some 2, .assign (.const (.slice none 0 0)),26,none⟩,
 ⟨some 3, .assign (.const (.bool false)),4,none⟩])
 .ret)
 .skip))))
 (.ops [
 ⟨some 57, .binOp .add 3 (.tmp 44) (.const (.int .i64 1)) 3,3,none⟩,
 ⟨some 44, .move (.tmp 57),3,none⟩])))
def eV:SC:= .loop Uu
def Uv:SC:=
 .seq
 (.ops [
 ⟨some 38, .binOp .lss 3 (.tmp 37) (.tmp 36) 3,0,none⟩])
 (.seq
 (.cond (.tmp 38)
 .skip
 (.exit 2))
 (.seq
 (.block 3
 (.seq
 (.ops [
 ⟨some 39, .move (.tmp 37),3,none⟩,
 ⟨some 7, .assign (.tmp 39),3,none⟩])
 (.seq
 (.ops [
 ⟨some 40, .load 37 (.tmp 1),37,none⟩,
 ⟨some 41, .move (.tmp 7),3,none⟩,
 ⟨some 42, .call ⟨(.value (.func 58)), #[(.tmp 40),(.tmp 41)], #[37,3]⟩,26,none⟩,
 ⟨some 43, .call ⟨(.builtin .len), #[(.tmp 42)], #[26]⟩,3,none⟩,
 ⟨some 44, .move (.const (.int .i64 0)),3,none⟩])
 (.block 4
 eV))))
 (.ops [
 ⟨some 58, .binOp .add 3 (.tmp 37) (.const (.int .i64 1)) 3,3,none⟩,
 ⟨some 37, .move (.tmp 58),3,none⟩])))
def eW:SC:= .loop Uv
def k39:SC:=
 .seq
 (.ops [
 ⟨some 1, .box 37 (.tmp 0),0,none⟩,
 ⟨some 2, .assign (.const (.slice none 0 0)),26,none⟩,
 ⟨some 3, .assign (.const (.bool false)),4,none⟩])
 (.seq
 (.ops [
 ⟨some 10, .fieldAddr 37 (.tmp 1) 0,0,none⟩,
 ⟨some 11, .load 35 (.tmp 10),35,none⟩,
 ⟨some 12, .call ⟨(.builtin .len), #[(.tmp 11)], #[35]⟩,3,none⟩,
 ⟨some 13, .makeSlice 26 (.tmp 12) (.tmp 12),26,none⟩,
 ⟨some 4, .assign (.tmp 13),26,none⟩])
 (.seq
 (.ops [
 ⟨some 14, .load 37 (.tmp 1),37,none⟩,
 ⟨some 15, .call ⟨(.value (.func 56)), #[(.tmp 14)], #[37]⟩,26,none⟩,
 ⟨some 5, .assign (.tmp 15),26,none⟩])
 (.seq
 (.seq
 (.ops [
 ⟨some 16, .move (.tmp 4),26,none⟩,
 ⟨some 17, .call ⟨(.builtin .len), #[(.tmp 16)], #[26]⟩,3,none⟩,
 ⟨some 18, .move (.const (.int .i64 0)),3,none⟩])
 (.block 0
 eU))
 (.seq
 (.seq
 (.ops [
 ⟨some 35, .move (.tmp 4),26,none⟩,
 ⟨some 36, .call ⟨(.builtin .len), #[(.tmp 35)], #[26]⟩,3,none⟩,
 ⟨some 37, .move (.const (.int .i64 0)),3,none⟩])
 (.block 2
 eW))
 (.seq
 (.ops [
 ⟨some 59, .move (.tmp 4),26,none⟩,
 ⟨some 2, .assign (.tmp 59),26,none⟩,
 ⟨some 3, .assign (.const (.bool true)),4,none⟩])
 .ret)))))
theorem nQ:Tryz.f39.body.map (Am lends)=some k39:=by kernel_rfl
theorem A5E:As Tryz.f39 1=true:=by kernel_rfl
theorem c39{a l:List D}{r:D×List D}(h:Av Y.env k39 (fin AJ l.length [ResultVar.tmp 2,ResultVar.tmp 3] r) (entry a l))(ha:a.length=1):Y.call 39 a l=some r:=
 AC (Y:=Y) rfl Tryz.func39 (ha▸A5E) nQ h
def G3(A2:List (List (Int×Int)))(AB A3:List Int)(Au:(List Int))(out:List Int)(DS:Int)(s:St):Prop:=s.v 1=D.box [D.sl 52 (A9 (fun x=>D.sl 82 (AO .i64 .i64 x)) A2),D.sl 3 (A9 (D.int .i64) AB),D.sl 3 (A9 (D.int .i64) A3)]∧s.v 4=D.own 3 (A9 (D.int .i64) out)∧s.v 5=D.own 3 (A9 (D.int .i64) Au)∧s.v 17=D.int .i64 ((List.replicate A2.length 0).length:Int)∧s.v 18=D.int .i64 DS
def I5(A2:List (List (Int×Int)))(AB A3:List Int)(Au:(List Int))(r:(List Int))(ex:Ex)(s:St):Prop:=ex= .exit 0∧s.v 1=D.box [D.sl 52 (A9 (fun x=>D.sl 82 (AO .i64 .i64 x)) A2),D.sl 3 (A9 (D.int .i64) AB),D.sl 3 (A9 (D.int .i64) A3)]∧s.v 4=D.own 3 (A9 (D.int .i64) r)
theorem Rv(A2:List (List (Int×Int)))(AB A3:List Int)(Au:(List Int)){v:(List Int)×Int}{s:St}{r:(List Int)}(h:Ia A2 AB A3 Au v=some r)(hM:G3 A2 AB A3 Au v.1 v.2 s):Av Y.env eU (I5 A2 AB A3 Au r) s:=by
 unfold Ia at h
 refine Aa (c:=Ut) (fun v=>G0 A2 AB A3 Au v.1 v.2) (fun v s=>G3 A2 AB A3 Au v.1 v.2 s) (I5 A2 AB A3 Au) ?_ h hM
 clear h hM s v r
 intro v s o hM h
 obtain⟨out,DS⟩:=v
 dsimp only at h hM
 unfold G0 at h
 unfold G3 at hM
 obtain⟨m0,m1,m2,m3,m4⟩:=hM
 unfold Ut
 by_cases e3:DS<((List.replicate A2.length 0).length:Int)
 ·rw [if_pos e3]at h
  obtain⟨e4,h⟩:=Ae h
  obtain⟨Gn,hl5,h⟩:=AL h
  try dsimp only at h
  have c5:=Lm A2 AB A3 (Au.getD DS.toNat default) hl5
  obtain⟨e6,h⟩:=Ae h
  obtain⟨e7,h⟩:=Ae h
  cases h
  simp (maxDischargeDepth:=9) only [↓A8,A1,AE,Ap,A6,AA,↓reduceIte,Nat.reduceEqDiff,Nat.reduceLT,Nat.reduceAdd,Nat.reduceBEq,Int.reduceEq,m0,m1,m2,m3,m4,e3,e4.1,e4.2,c5,e6.2,e7.2,G3,Ei]
 ·rw [if_neg e3]at h
  cases h
  simp (maxDischargeDepth:=9) only [↓A8,A1,AA,↓reduceIte,Nat.reduceEqDiff,Nat.reduceLT,m0,m1,m3,m4,e3,G3,I5,Ge]
def ET(A2:List (List (Int×Int)))(AB A3:List Int)(EV:(List Int))(H7:Int)(FN:(List Int))(P2:Int)(s:St):Prop:=s.v 1=D.box [D.sl 52 (A9 (fun x=>D.sl 82 (AO .i64 .i64 x)) A2),D.sl 3 (A9 (D.int .i64) AB),D.sl 3 (A9 (D.int .i64) A3)]∧s.v 4=D.own 3 (A9 (D.int .i64) EV)∧s.v 7=D.int .i64 H7∧s.v 36=D.int .i64 (EV.length:Int)∧s.v 37=D.int .i64 H7∧s.v 42=D.own 3 (A9 (D.int .i64) FN)∧s.v 43=D.int .i64 (FN.length:Int)∧s.v 44=D.int .i64 P2
def G4(A2:List (List (Int×Int)))(AB A3:List Int)(EV:(List Int))(H7:Int)(FN:(List Int))(r:Unit⊕Unit)(ex:Ex)(s:St):Prop:=match r with
 | .inl q=>ex= .ret∧s.v 2=D.own 3 []∧s.v 3=D.bool false
 | .inr q=>ex= .exit 4∧s.v 1=D.box [D.sl 52 (A9 (fun x=>D.sl 82 (AO .i64 .i64 x)) A2),D.sl 3 (A9 (D.int .i64) AB),D.sl 3 (A9 (D.int .i64) A3)]∧s.v 4=D.own 3 (A9 (D.int .i64) EV)∧s.v 36=D.int .i64 (EV.length:Int)∧s.v 37=D.int .i64 H7
theorem Rw(A2:List (List (Int×Int)))(AB A3:List Int)(EV:(List Int))(H7:Int)(FN:(List Int)){v:Int}{s:St}{r:Unit⊕Unit}(h:Ib A2 AB A3 EV H7 FN v=some r)(hM:ET A2 AB A3 EV H7 FN v s):Av Y.env eV (G4 A2 AB A3 EV H7 FN r) s:=by
 unfold Ib at h
 refine Aa (c:=Uu) (fun v=>G1 A2 AB A3 EV H7 FN v) (fun v s=>ET A2 AB A3 EV H7 FN v s) (G4 A2 AB A3 EV H7 FN) ?_ h hM
 clear h hM s v r
 intro P2 s o hM h
 unfold G1 at h
 unfold ET at hM
 obtain⟨m0,m1,m2,m3,m4,m5,m6,m7⟩:=hM
 unfold Uu
 by_cases e7:P2<(FN.length:Int)
 ·rw [if_pos e7]at h
  obtain⟨e8,h⟩:=Ae h
  obtain⟨e9,h⟩:=Ae h
  obtain⟨e10,h⟩:=Ae h
  by_cases e11:(EV.getD H7.toNat default)=(EV.getD ((FN.getD P2.toNat default).toNat) default)
  ·rw [if_pos e11]at h
   cases h
   simp (maxDischargeDepth:=9) only [↓A8,A1,AE,A6,AA,↓reduceIte,Nat.reduceEqDiff,Nat.reduceLT,Nat.reduceBEq,m1,m2,m5,m6,m7,e7,e8.1,e8.2,e9.1,e9.2,e10.1,e10.2,decide_eq_true e11,ET,G4,Ho]
  ·rw [if_neg e11]at h
   cases h
   simp (maxDischargeDepth:=9) only [↓A8,A1,AE,A6,AA,↓reduceIte,Nat.reduceEqDiff,Nat.reduceLT,Nat.reduceBEq,m0,m1,m2,m3,m4,m5,m6,m7,e7,e8.1,e8.2,e9.1,e9.2,e10.1,e10.2,e11,ET,Ei]
 ·rw [if_neg e7]at h
  cases h
  simp (maxDischargeDepth:=9) only [↓A8,A1,AA,↓reduceIte,Nat.reduceEqDiff,Nat.reduceLT,m0,m1,m3,m4,m6,m7,e7,ET,G4,Ge]
def EU(A2:List (List (Int×Int)))(AB A3:List Int)(EV:(List Int))(H7:Int)(s:St):Prop:=s.v 1=D.box [D.sl 52 (A9 (fun x=>D.sl 82 (AO .i64 .i64 x)) A2),D.sl 3 (A9 (D.int .i64) AB),D.sl 3 (A9 (D.int .i64) A3)]∧s.v 4=D.own 3 (A9 (D.int .i64) EV)∧s.v 36=D.int .i64 (EV.length:Int)∧s.v 37=D.int .i64 H7
def G5(A2:List (List (Int×Int)))(AB A3:List Int)(EV:(List Int))(r:Unit⊕Unit)(ex:Ex)(s:St):Prop:=match r with
 | .inl q=>ex= .ret∧s.v 2=D.own 3 []∧s.v 3=D.bool false
 | .inr q=>ex= .exit 2∧s.v 4=D.own 3 (A9 (D.int .i64) EV)
theorem Rx(A2:List (List (Int×Int)))(AB A3:List Int)(EV:(List Int)){v:Int}{s:St}{r:Unit⊕Unit}(h:Ic A2 AB A3 EV v=some r)(hM:EU A2 AB A3 EV v s):Av Y.env eW (G5 A2 AB A3 EV r) s:=by
 unfold Ic at h
 refine Aa (c:=Uv) (fun v=>G2 A2 AB A3 EV v) (fun v s=>EU A2 AB A3 EV v s) (G5 A2 AB A3 EV) ?_ h hM
 clear h hM s v r
 intro H7 s o hM h
 unfold G2 at h
 unfold EU at hM
 obtain⟨m0,m1,m2,m3⟩:=hM
 unfold Uv
 by_cases e5:H7<(EV.length:Int)
 ·rw [if_pos e5]at h
  obtain⟨FN,hl6,h⟩:=AL h
  try dsimp only at h
  have c6:=Ll A2 AB A3 H7 hl6
  obtain⟨K5,hl8,h⟩:=AL h
  try dsimp only at h
  simp (maxDischargeDepth:=9) only [↓A8,A1,AE,Ap,A6,AA,↓reduceIte,Nat.reduceEqDiff,Nat.reduceLT,Nat.reduceAdd,m0,m2,m3,e5,c6]
  refine AP (Rw A2 AB A3 EV H7 FN hl8 ?_) ?_
  ·simp (maxDischargeDepth:=9) only [A1,↓reduceIte,Nat.reduceEqDiff,m0,m1,m2,m3,ET]
  ·intro ex8 s8 hX8
   rcases K5 with q8_ | q8_
   ·unfold G4 at hX8
    dsimp only at hX8 h
    obtain⟨rfl,n8_0,n8_1⟩:=hX8
    cases h
    simp (maxDischargeDepth:=9) only [↓A8,A1,n8_0,n8_1,EU,G5,Ho]
   ·unfold G4 at hX8
    dsimp only at hX8 h
    obtain⟨rfl,n8_0,n8_1,n8_2,n8_3⟩:=hX8
    cases h
    simp (maxDischargeDepth:=9) only [↓A8,A1,AA,↓reduceIte,Nat.reduceEqDiff,Nat.reduceLT,n8_0,n8_1,n8_2,n8_3,EU,Ei]
 ·rw [if_neg e5]at h
  cases h
  simp (maxDischargeDepth:=9) only [↓A8,A1,AA,↓reduceIte,Nat.reduceEqDiff,Nat.reduceLT,m1,m2,m3,e5,EU,G5,Ge]
theorem Uw(A2:List (List (Int×Int)))(AB A3:List Int){r:(List Int)×Bool}(h:PJ A2 AB A3=some r):Y.call 39 [D.agg [D.sl 52 (A9 (fun x=>D.sl 82 (AO .i64 .i64 x)) A2),D.sl 3 (A9 (D.int .i64) AB),D.sl 3 (A9 (D.int .i64) A3)]] []=some (D.tup [D.own 3 (A9 (D.int .i64) r.1),D.bool r.2],[]):=by
 refine c39 ?_ rfl
 unfold k39
 unfold PJ at h
 obtain⟨e1,h⟩:=Ae h
 obtain⟨Au,hl2,h⟩:=AL h
 try dsimp only at h
 have c2:=R1 A2 AB A3 hl2
 obtain⟨EV,hl4,h⟩:=AL h
 try dsimp only at h
 simp (maxDischargeDepth:=9) only [↓A8,A1,AE,Ap,A6,AA,↓reduceIte,Nat.reduceEqDiff,Nat.reduceLT,Nat.reduceLeDiff,Nat.reduceAdd,e1.1,e1.2,c2]
 refine AP (Rv A2 AB A3 Au hl4 ?_) ?_
 ·simp (maxDischargeDepth:=9) only [A1,↓reduceIte,Nat.reduceEqDiff,G3]<;>(repeat' apply And.intro)<;>first | rfl | exact⟨_,rfl⟩ | exact⟨_,_,rfl⟩ | simp [A9]
 ·intro ex4 s4 hX4
  unfold I5 at hX4
  obtain⟨rfl,n4_0,n4_1⟩:=hX4
  obtain⟨FN,hl6,h⟩:=AL h
  try dsimp only at h
  simp (maxDischargeDepth:=9) only [↓A8,A1,AE,A6,AA,↓reduceIte,Nat.reduceEqDiff,n4_1]
  refine AP (Rx A2 AB A3 EV hl6 ?_) ?_
  ·simp (maxDischargeDepth:=9) only [A1,↓reduceIte,Nat.reduceEqDiff,n4_0,n4_1,EU]
  ·intro ex6 s6 hX6
   rcases FN with q6_ | q6_
   ·unfold G5 at hX6
    dsimp only at hX6 h
    obtain⟨rfl,n6_0,n6_1⟩:=hX6
    cases h
    simp (maxDischargeDepth:=9) only [↓A8,A1,A6,↓reduceIte,Nat.reduceEqDiff,n6_0,n6_1]<;>(repeat' apply And.intro)<;>first | rfl | exact⟨_,rfl⟩ | exact⟨_,_,rfl⟩ | simp [A9,Aq]
   ·unfold G5 at hX6
    dsimp only at hX6 h
    obtain⟨rfl,n6_0⟩:=hX6
    cases h
    simp (maxDischargeDepth:=9) only [↓A8,A1,AE,A6,AA,↓reduceIte,Nat.reduceEqDiff,Nat.reduceLT,n6_0]
noncomputable def Fb(A2:List (List (Int×Int)))(AB A3:List Int):Option ((List Int)×Bool):=
 ck (BH A2)<|
 ck (AB.length<1099511627776)<|
 ck (A3.length<1099511627776)<|
 if(CG A2 AB A3)=true then
  (PJ A2 AB A3).bind fun FN=>
  some (FN.1,FN.2)
 else
  some ([],false)
def k21:SC:=
 .seq
 (.ops [
 ⟨some 1, .box 37 (.tmp 0),0,none⟩,
 ⟨some 2, .assign (.const (.slice none 0 0)),26,none⟩,
 ⟨some 3, .assign (.const (.bool false)),4,none⟩])
 (.seq
 (.seq
 (.ops [
 ⟨some 4, .load 37 (.tmp 1),37,none⟩,
 ⟨some 5, .call ⟨(.value (.func 38)), #[(.tmp 4)], #[37]⟩,4,none⟩,
 ⟨some 6, .unOp .not 4 (.tmp 5),4,none⟩])
 (.cond (.tmp 6)
 (.seq
 (.ops [
 ⟨some 2, .assign (.const (.slice none 0 0)),26,none⟩,
 ⟨some 3, .assign (.const (.bool false)),4,none⟩])
 .ret)
 .skip))
 (.seq
 (.ops [
 ⟨some 7, .load 37 (.tmp 1),37,none⟩,
 ⟨some 8, .call ⟨(.value (.func 39)), #[(.tmp 7)], #[37]⟩,50,none⟩,
 ⟨some 9, .extract (.tmp 8) 0,26,none⟩,
 ⟨some 10, .extract (.tmp 8) 1,4,none⟩,
 ⟨some 2, .assign (.tmp 9),26,none⟩,
 ⟨some 3, .assign (.tmp 10),4,none⟩])
 .ret))
theorem nR:Tryz.f21.body.map (Am lends)=some k21:=by kernel_rfl
theorem A5H:As Tryz.f21 1=true:=by kernel_rfl
theorem c21{a l:List D}{r:D×List D}(h:Av Y.env k21 (fin AJ l.length [ResultVar.tmp 2,ResultVar.tmp 3] r) (entry a l))(ha:a.length=1):Y.call 21 a l=some r:=
 AC (Y:=Y) rfl Tryz.func21 (ha▸A5H) nR h
theorem Ld(A2:List (List (Int×Int)))(AB A3:List Int){r:(List Int)×Bool}(h:Fb A2 AB A3=some r):Y.call 21 [D.agg [D.sl 52 (A9 (fun x=>D.sl 82 (AO .i64 .i64 x)) A2),D.sl 3 (A9 (D.int .i64) AB),D.sl 3 (A9 (D.int .i64) A3)]] []=some (D.tup [D.own 3 (A9 (D.int .i64) r.1),D.bool r.2],[]):=by
 refine c21 ?_ rfl
 unfold k21
 unfold Fb at h
 obtain⟨e1,h⟩:=Ae h
 obtain⟨e2,h⟩:=Ae h
 obtain⟨e3,h⟩:=Ae h
 have c4:=X1 A2 AB A3 e1 e2 e3
 by_cases e5:(CG A2 AB A3)=true
 ·rw [if_pos e5]at h
  obtain⟨FN,hl6,h⟩:=AL h
  try dsimp only at h
  have c6:=Uw A2 AB A3 hl6
  cases h
  simp (maxDischargeDepth:=9) only [↓A8,A1,AE,Ap,A6,AA,↓reduceIte,Nat.reduceEqDiff,Nat.reduceLT,Nat.reduceAdd,c4,e5,c6]
 ·rw [if_neg e5]at h
  have e5f:(CG A2 AB A3)=false:=Bool.eq_false_iff.mpr e5
  cases h
  simp (maxDischargeDepth:=9) only [↓A8,A1,Ap,A6,AA,↓reduceIte,Nat.reduceEqDiff,Nat.reduceLT,Nat.reduceAdd,c4,e5f]<;>(repeat' apply And.intro)<;>first | rfl | exact⟨_,rfl⟩ | exact⟨_,_,rfl⟩ | simp [A9,Aq]
noncomputable def G6(x_:List Int)(ports:Int)(row:List Int)(Ux:Int):Option (((List Int)×Int)⊕((List Int))):=
 if Ux<((List.replicate ports.toNat 0).length:Int)then
  ck (0<x_.length)<|
  ck (0≤Ux∧Ux.toNat<row.length)<|
  some (Sum.inl ((row.set Ux.toNat (x_.getD 0 default)),IntKind.i64.wrap (Ux+1)))
 else
  some (Sum.inr row)
noncomputable def KC(x_:List Int)(ports:Int)(v:(List Int)×Int):Option ((List Int)):=DT (fun v=>G6 x_ ports v.1 v.2) v
noncomputable def LY(pL pD:Int)(pN pE:List (List Int))(x_:List Int)(ports:Int):Option ((List Int)):=
 if ports=pD then
  (K2 x_).bind fun Au=>
  some Au
 else
  ck (0≤ports∧ports<1099511627776)<|
  (KC x_ ports ((List.replicate ports.toNat 0),0)).bind fun EV=>
  some EV
def Uy:SC:=
 .seq
 (.ops [
 ⟨some 20, .binOp .lss 3 (.tmp 19) (.tmp 18) 3,0,none⟩])
 (.seq
 (.cond (.tmp 20)
 .skip
 (.exit 0))
 (.seq
 (.block 1
 (.seq
 (.ops [
 ⟨some 21, .move (.tmp 19),3,none⟩,
 ⟨some 8, .assign (.tmp 21),3,none⟩])
 (.ops [
 ⟨some 22, .move (.tmp 7),26,none⟩,
 ⟨some 23, .move (.tmp 8),3,none⟩,
 ⟨some 24, .move (.tmp 1),26,none⟩,
 ⟨some 25, .indexAddr 26 (.tmp 24) (.const (.int .i64 0)),0,none⟩,
 ⟨some 26, .load 3 (.tmp 25),3,none⟩,
 ⟨some 27, .indexAddr 26 (.tmp 22) (.tmp 23),0,none⟩,
 ⟨none, .store 3 (.tmp 27) (.tmp 26),0,none⟩])))
 (.ops [
 ⟨some 28, .binOp .add 3 (.tmp 19) (.const (.int .i64 1)) 3,3,none⟩,
 ⟨some 19, .move (.tmp 28),3,none⟩])))
def eX:SC:= .loop Uy
def k22:SC:=
 .seq
 (.ops [
 ⟨some 3, .box 33 (.tmp 0),0,none⟩,
 ⟨some 6, .assign (.const (.slice none 0 0)),26,none⟩])
 (.seq
 (.seq
 (.ops [
 ⟨some 9, .move (.tmp 2),3,none⟩,
 ⟨some 10, .fieldAddr 33 (.tmp 3) 1,0,none⟩,
 ⟨some 11, .load 3 (.tmp 10),3,none⟩,
 ⟨some 12, .binOp .eql 3 (.tmp 9) (.tmp 11) 3,4,none⟩])
 (.cond (.tmp 12)
 (.seq
 (.ops [
 ⟨some 13, .move (.tmp 1),26,none⟩,
 ⟨some 14, .call ⟨(.value (.func 37)), #[(.tmp 13)], #[26]⟩,26,none⟩,
 ⟨some 6, .assign (.tmp 14),26,none⟩])
 .ret)
 .skip))
 (.seq
 (.ops [
 ⟨some 15, .move (.tmp 2),3,none⟩,
 ⟨some 16, .makeSlice 26 (.tmp 15) (.tmp 15),26,none⟩,
 ⟨some 7, .assign (.tmp 16),26,none⟩])
 (.seq
 (.seq
 (.ops [
 ⟨some 17, .move (.tmp 7),26,none⟩,
 ⟨some 18, .call ⟨(.builtin .len), #[(.tmp 17)], #[26]⟩,3,none⟩,
 ⟨some 19, .move (.const (.int .i64 0)),3,none⟩])
 (.block 0
 eX))
 (.seq
 (.ops [
 ⟨some 29, .move (.tmp 7),26,none⟩,
 ⟨some 6, .assign (.tmp 29),26,none⟩])
 .ret))))
theorem nS:Tryz.f22.body.map (Am lends)=some k22:=by kernel_rfl
theorem A5J:As Tryz.f22 3=true:=by kernel_rfl
theorem X2{a l:List D}{r:D×List D}(h:Av Y.env k22 (fin AJ l.length [ResultVar.tmp 6] r) (entry a l))(ha:a.length=3):Y.call 22 a l=some r:=
 AC (Y:=Y) rfl Tryz.func22 (ha▸A5J) nS h
def G7(x_:List Int)(ports:Int)(row:List Int)(Ux:Int)(s:St):Prop:=s.v 1=D.sl 3 (A9 (D.int .i64) x_)∧s.v 7=D.own 3 (A9 (D.int .i64) row)∧s.v 18=D.int .i64 ((List.replicate ports.toNat 0).length:Int)∧s.v 19=D.int .i64 Ux
def I6(x_:List Int)(ports:Int)(r:(List Int))(ex:Ex)(s:St):Prop:=ex= .exit 0∧s.v 7=D.own 3 (A9 (D.int .i64) r)
theorem Ry(x_:List Int)(ports:Int){v:(List Int)×Int}{s:St}{r:(List Int)}(h:KC x_ ports v=some r)(hM:G7 x_ ports v.1 v.2 s):Av Y.env eX (I6 x_ ports r) s:=by
 unfold KC at h
 refine Aa (c:=Uy) (fun v=>G6 x_ ports v.1 v.2) (fun v s=>G7 x_ ports v.1 v.2 s) (I6 x_ ports) ?_ h hM
 clear h hM s v r
 intro v s o hM h
 obtain⟨row,Ux⟩:=v
 dsimp only at h hM
 unfold G6 at h
 unfold G7 at hM
 obtain⟨m0,m1,m2,m3⟩:=hM
 unfold Uy
 by_cases e3:Ux<((List.replicate ports.toNat 0).length:Int)
 ·rw [if_pos e3]at h
  obtain⟨e4,h⟩:=Ae h
  obtain⟨e5,h⟩:=Ae h
  cases h
  simp (maxDischargeDepth:=9) only [↓A8,A1,AE,A6,AA,↓reduceIte,Nat.reduceEqDiff,Nat.reduceLT,m0,m1,m2,m3,e3,e4,e5.1,e5.2,G7,Ei]
 ·rw [if_neg e3]at h
  cases h
  simp (maxDischargeDepth:=9) only [↓A8,A1,AA,↓reduceIte,Nat.reduceEqDiff,Nat.reduceLT,m1,m2,m3,e3,G7,I6,Ge]
theorem NK(pL pD:Int)(pN pE:List (List Int))(x_:List Int)(ports:Int){r:(List Int)}(h:LY pL pD pN pE x_ ports=some r):Y.call 22 [D.agg [D.int .i64 pL,D.int .i64 pD,D.sl 26 (A9 (fun x=>D.sl 3 (A9 (D.int .i64) x)) pN),D.sl 26 (A9 (fun x=>D.sl 3 (A9 (D.int .i64) x)) pE)],D.sl 3 (A9 (D.int .i64) x_),D.int .i64 ports] []=some (D.own 3 (A9 (D.int .i64) r),[]):=by
 refine X2 ?_ rfl
 unfold k22
 unfold LY at h
 by_cases e1:ports=pD
 ·rw [if_pos e1]at h
  obtain⟨Au,hl2,h⟩:=AL h
  try dsimp only at h
  have c2:=K3 x_ hl2
  cases h
  simp (maxDischargeDepth:=9) only [↓A8,A1,AE,Ap,A6,AA,↓reduceIte,Nat.reduceEqDiff,Nat.reduceLT,Nat.reduceAdd,decide_eq_true e1,c2]
 ·rw [if_neg e1]at h
  obtain⟨e2,h⟩:=Ae h
  obtain⟨EV,hl4,h⟩:=AL h
  try dsimp only at h
  simp (maxDischargeDepth:=9) only [↓A8,A1,AE,A6,AA,↓reduceIte,Nat.reduceEqDiff,Nat.reduceLT,Nat.reduceLeDiff,Nat.reduceAdd,e1,e2.1,e2.2]
  refine AP (Ry x_ ports hl4 ?_) ?_
  ·simp (maxDischargeDepth:=9) only [A1,A6,↓reduceIte,Nat.reduceEqDiff,Nat.reduceLT,G7]<;>(repeat' apply And.intro)<;>first | rfl | exact⟨_,rfl⟩ | exact⟨_,_,rfl⟩ | simp [A9]
  ·intro ex4 s4 hX4
   unfold I6 at hX4
   obtain⟨rfl,n4_0⟩:=hX4
   cases h
   simp (maxDischargeDepth:=9) only [↓A8,A1,AE,A6,↓reduceIte,Nat.reduceEqDiff,Nat.reduceLT,n4_0]
noncomputable def Bw(pL pD:Int)(pN pE:List (List Int))(A2:List (List (Int×Int)))(BB:(List Int)×(List Int)×Bool)(Au:(List Int)×Bool)(out:List (List Int))(BT:Int):Option (((List (List Int))×Int)⊕((List (List Int)))):=
 if BT<(A2.length:Int)then
  ck (0≤BT∧BT.toNat<A2.length)<|
  ck (0≤BT∧BT.toNat<Au.1.length)<|
  if(Au.1.getD BT.toNat default)=0 then
   (LY pL pD pN pE BB.1 ((A2.getD BT.toNat default).length:Int)).bind fun HG=>
   ck (out.length+1<1099511627776)<|
   some (Sum.inl ((out++[HG]),IntKind.i64.wrap (BT+1)))
  else
   (LY pL pD pN pE BB.2.1 ((A2.getD BT.toNat default).length:Int)).bind fun HG=>
   ck (out.length+1<1099511627776)<|
   some (Sum.inl ((out++[HG]),IntKind.i64.wrap (BT+1)))
 else
  some (Sum.inr out)
noncomputable def DF(pL pD:Int)(pN pE:List (List Int))(A2:List (List (Int×Int)))(BB:(List Int)×(List Int)×Bool)(Au:(List Int)×Bool)(v:(List (List Int))×Int):Option ((List (List Int))):=DT (fun v=>Bw pL pD pN pE A2 BB Au v.1 v.2) v
noncomputable def Fc(pL pD:Int)(pN pE:List (List Int))(A2:List (List (Int×Int)))(AB A3:List Int):Option ((List (List Int))×Bool):=
 (IZ pL pD pN pE).bind fun BB=>
 (Fb A2 AB A3).bind fun Au=>
 if BB.2.2=true then
  if Au.2=true then
   (DF pL pD pN pE A2 BB Au ([],0)).bind fun FN=>
   some (FN,true)
  else
   some ([],false)
 else
  some ([],false)
def Yp:SC:=
 .seq
 (.ops [
 ⟨some 35, .binOp .lss 3 (.tmp 34) (.tmp 33) 3,0,none⟩])
 (.seq
 (.cond (.tmp 35)
 .skip
 (.exit 0))
 (.seq
 (.block 1
 (.seq
 (.ops [
 ⟨some 36, .move (.tmp 34),3,none⟩,
 ⟨some 37, .indexAddr 35 (.tmp 32) (.tmp 34),0,none⟩,
 ⟨some 38, .load 52 (.tmp 37),52,none⟩,
 ⟨some 12, .assign (.tmp 36),3,none⟩,
 ⟨some 13, .assign (.tmp 38),52,none⟩])
 (.seq
 (.ops [
 ⟨some 39, .move (.tmp 9),26,none⟩,
 ⟨some 40, .move (.tmp 12),3,none⟩,
 ⟨some 41, .indexAddr 26 (.tmp 39) (.tmp 40),0,none⟩,
 ⟨some 42, .load 3 (.tmp 41),3,none⟩,
 ⟨some 43, .binOp .eql 3 (.tmp 42) (.const (.int .i64 0)) 3,4,none⟩])
 (.cond (.tmp 43)
 (.ops [
 ⟨some 44, .move (.tmp 11),22,none⟩,
 ⟨some 45, .load 33 (.tmp 2),33,none⟩,
 ⟨some 46, .move (.tmp 6),26,none⟩,
 ⟨some 47, .move (.tmp 13),52,none⟩,
 ⟨some 48, .call ⟨(.builtin .len), #[(.tmp 47)], #[52]⟩,3,none⟩,
 ⟨some 49, .call ⟨(.value (.func 22)), #[(.tmp 45),(.tmp 46),(.tmp 48)], #[33,26,3]⟩,26,none⟩,
 ⟨some 50, .buildSlice 22 1 #[(0,(.tmp 49))],22,none⟩,
 ⟨some 51, .call ⟨(.builtin .append), #[(.tmp 44),(.tmp 50)], #[22,22]⟩,22,none⟩,
 ⟨some 11, .assign (.tmp 51),22,none⟩])
 (.ops [
 ⟨some 52, .move (.tmp 11),22,none⟩,
 ⟨some 53, .load 33 (.tmp 2),33,none⟩,
 ⟨some 54, .move (.tmp 7),26,none⟩,
 ⟨some 55, .move (.tmp 13),52,none⟩,
 ⟨some 56, .call ⟨(.builtin .len), #[(.tmp 55)], #[52]⟩,3,none⟩,
 ⟨some 57, .call ⟨(.value (.func 22)), #[(.tmp 53),(.tmp 54),(.tmp 56)], #[33,26,3]⟩,26,none⟩,
 ⟨some 58, .buildSlice 22 1 #[(0,(.tmp 57))],22,none⟩,
 ⟨some 59, .call ⟨(.builtin .append), #[(.tmp 52),(.tmp 58)], #[22,22]⟩,22,none⟩,
 ⟨some 11, .assign (.tmp 59),22,none⟩])))))
 (.ops [
 ⟨some 60, .binOp .add 3 (.tmp 34) (.const (.int .i64 1)) 3,3,none⟩,
 ⟨some 34, .move (.tmp 60),3,none⟩])))
def j8:SC:= .loop Yp
def k6:SC:=
 .seq
 (.ops [
 ⟨some 2, .box 33 (.tmp 0),0,none⟩,
 ⟨some 3, .box 37 (.tmp 1),0,none⟩,
 ⟨some 4, .assign (.const (.slice none 0 0)),22,none⟩,
 ⟨some 5, .assign (.const (.bool false)),4,none⟩])
 (.seq
 (.ops [
 ⟨some 15, .load 33 (.tmp 2),33,none⟩,
 ⟨some 16, .call ⟨(.value (.func 20)), #[(.tmp 15)], #[33]⟩,48,none⟩,
 ⟨some 14, .move (.tmp 16),48,none⟩,
 ⟨some 17, .extract (.tmp 14) 0,26,none⟩,
 ⟨some 18, .extract (.tmp 14) 1,26,none⟩,
 ⟨some 19, .extract (.tmp 14) 2,4,none⟩,
 ⟨some 6, .assign (.tmp 17),26,none⟩,
 ⟨some 7, .assign (.tmp 18),26,none⟩,
 ⟨some 8, .assign (.tmp 19),4,none⟩])
 (.seq
 (.ops [
 ⟨some 21, .load 37 (.tmp 3),37,none⟩,
 ⟨some 22, .call ⟨(.value (.func 21)), #[(.tmp 21)], #[37]⟩,50,none⟩,
 ⟨some 20, .move (.tmp 22),50,none⟩,
 ⟨some 23, .extract (.tmp 20) 0,26,none⟩,
 ⟨some 24, .extract (.tmp 20) 1,4,none⟩,
 ⟨some 9, .assign (.tmp 23),26,none⟩,
 ⟨some 10, .assign (.tmp 24),4,none⟩])
 (.seq
 (.seq
 (.ops [
 ⟨some 25, .move (.tmp 8),4,none⟩,
 ⟨some 26, .unOp .not 4 (.tmp 25),4,none⟩,
 ⟨some 27, .move (.tmp 26),4,none⟩,
 ⟨some 28, .move (.tmp 10),4,(some (some 27,false))⟩,
 ⟨some 29, .unOp .not 4 (.tmp 28),4,(some (some 27,false))⟩,
 ⟨some 30, .pick (.tmp 27) (.const (.bool true)) (.tmp 29),4,none⟩])
 (.cond (.tmp 30)
 (.seq
 (.ops [
 ⟨some 4, .assign (.const (.slice none 0 0)),22,none⟩,
 ⟨some 5, .assign (.const (.bool false)),4,none⟩])
 .ret)
 .skip))
 (.seq
 (.ops [
 ⟨some 11, .assign (.const (.slice none 0 0)),22,none⟩])
 (.seq
 (.seq
 (.ops [
 ⟨some 31, .fieldAddr 37 (.tmp 3) 0,0,none⟩,
 ⟨some 32, .load 35 (.tmp 31),35,none⟩,
 ⟨some 33, .call ⟨(.builtin .len), #[(.tmp 32)], #[35]⟩,3,none⟩,
 ⟨some 34, .move (.const (.int .i64 0)),3,none⟩])
 (.block 0
 j8))
 (.seq
 (.ops [
 ⟨some 61, .move (.tmp 11),22,none⟩,
 ⟨some 4, .assign (.tmp 61),22,none⟩,
 ⟨some 5, .assign (.const (.bool true)),4,none⟩])
 .ret))))))
theorem xX:Tryz.f6.body.map (Am lends)=some k6:=by kernel_rfl
theorem ok6:As Tryz.f6 2=true:=by kernel_rfl
theorem c6{a l:List D}{r:D×List D}(h:Av Y.env k6 (fin AJ l.length [ResultVar.tmp 4,ResultVar.tmp 5] r) (entry a l))(ha:a.length=2):Y.call 6 a l=some r:=
 AC (Y:=Y) rfl Tryz.func6 (ha▸ok6) xX h
def BV(pL pD:Int)(pN pE:List (List Int))(A2:List (List (Int×Int)))(BB:(List Int)×(List Int)×Bool)(Au:(List Int)×Bool)(out:List (List Int))(BT:Int)(s:St):Prop:=s.v 2=D.box [D.int .i64 pL,D.int .i64 pD,D.sl 26 (A9 (fun x=>D.sl 3 (A9 (D.int .i64) x)) pN),D.sl 26 (A9 (fun x=>D.sl 3 (A9 (D.int .i64) x)) pE)]∧s.v 6=D.own 3 (A9 (D.int .i64) BB.1)∧s.v 7=D.own 3 (A9 (D.int .i64) BB.2.1)∧s.v 9=D.own 3 (A9 (D.int .i64) Au.1)∧s.v 11=D.own 26 (A9 (fun x=>D.own 3 (A9 (D.int .i64) x)) out)∧s.v 32=D.sl 52 (A9 (fun x=>D.sl 82 (AO .i64 .i64 x)) A2)∧s.v 33=D.int .i64 (A2.length:Int)∧s.v 34=D.int .i64 BT
def DX(pL pD:Int)(pN pE:List (List Int))(A2:List (List (Int×Int)))(BB:(List Int)×(List Int)×Bool)(Au:(List Int)×Bool)(r:(List (List Int)))(ex:Ex)(s:St):Prop:=ex= .exit 0∧s.v 11=D.own 26 (A9 (fun x=>D.own 3 (A9 (D.int .i64) x)) r)
theorem LC(pL pD:Int)(pN pE:List (List Int))(A2:List (List (Int×Int)))(BB:(List Int)×(List Int)×Bool)(Au:(List Int)×Bool){v:(List (List Int))×Int}{s:St}{r:(List (List Int))}(h:DF pL pD pN pE A2 BB Au v=some r)(hM:BV pL pD pN pE A2 BB Au v.1 v.2 s):Av Y.env j8 (DX pL pD pN pE A2 BB Au r) s:=by
 unfold DF at h
 refine Aa (c:=Yp) (fun v=>Bw pL pD pN pE A2 BB Au v.1 v.2) (fun v s=>BV pL pD pN pE A2 BB Au v.1 v.2 s) (DX pL pD pN pE A2 BB Au) ?_ h hM
 clear h hM s v r
 intro v s o hM h
 obtain⟨out,BT⟩:=v
 dsimp only at h hM
 unfold Bw at h
 unfold BV at hM
 obtain⟨m0,m1,m2,m3,m4,m5,m6,m7⟩:=hM
 unfold Yp
 by_cases e5:BT<(A2.length:Int)
 ·rw [if_pos e5]at h
  obtain⟨e6,h⟩:=Ae h
  obtain⟨e7,h⟩:=Ae h
  by_cases e8:(Au.1.getD BT.toNat default)=0
  ·rw [if_pos e8]at h
   obtain⟨HG,hl9,h⟩:=AL h
   try dsimp only at h
   have c9:=NK pL pD pN pE BB.1 ((A2.getD BT.toNat default).length:Int) hl9
   obtain⟨e10,h⟩:=Ae h
   cases h
   simp (maxDischargeDepth:=9) only [↓A8,A1,AE,Ap,A6,AA,↓reduceIte,Nat.reduceEqDiff,Nat.reduceLT,Nat.reduceLeDiff,Nat.reduceAdd,m0,m1,m2,m3,m4,m5,m6,m7,e5,e6.1,e6.2,e7.2,decide_eq_true e8,c9,e10,BV,Ei]
  ·rw [if_neg e8]at h
   obtain⟨HG,hl9,h⟩:=AL h
   try dsimp only at h
   have c9:=NK pL pD pN pE BB.2.1 ((A2.getD BT.toNat default).length:Int) hl9
   obtain⟨e10,h⟩:=Ae h
   cases h
   simp (maxDischargeDepth:=9) only [↓A8,A1,AE,Ap,A6,AA,↓reduceIte,Nat.reduceEqDiff,Nat.reduceLT,Nat.reduceLeDiff,Nat.reduceAdd,m0,m1,m2,m3,m4,m5,m6,m7,e5,e6.1,e6.2,e7.2,e8,c9,e10,BV,Ei]
 ·rw [if_neg e5]at h
  cases h
  simp (maxDischargeDepth:=9) only [↓A8,A1,AA,↓reduceIte,Nat.reduceEqDiff,Nat.reduceLT,m4,m6,m7,e5,BV,DX,Ge]
theorem Le(pL pD:Int)(pN pE:List (List Int))(A2:List (List (Int×Int)))(AB A3:List Int){r:(List (List Int))×Bool}(h:Fc pL pD pN pE A2 AB A3=some r):Y.call 6 [D.agg [D.int .i64 pL,D.int .i64 pD,D.sl 26 (A9 (fun x=>D.sl 3 (A9 (D.int .i64) x)) pN),D.sl 26 (A9 (fun x=>D.sl 3 (A9 (D.int .i64) x)) pE)],D.agg [D.sl 52 (A9 (fun x=>D.sl 82 (AO .i64 .i64 x)) A2),D.sl 3 (A9 (D.int .i64) AB),D.sl 3 (A9 (D.int .i64) A3)]] []=some (D.tup [D.own 26 (A9 (fun x=>D.own 3 (A9 (D.int .i64) x)) r.1),D.bool r.2],[]):=by
 refine c6 ?_ rfl
 unfold k6
 unfold Fc at h
 obtain⟨BB,hl1,h⟩:=AL h
 try dsimp only at h
 have c1:=Ot pL pD pN pE hl1
 obtain⟨Au,hl2,h⟩:=AL h
 try dsimp only at h
 have c2:=Ld A2 AB A3 hl2
 by_cases e3:BB.2.2=true
 ·rw [if_pos e3]at h
  by_cases e4:Au.2=true
  ·rw [if_pos e4]at h
   obtain⟨FN,hl6,h⟩:=AL h
   try dsimp only at h
   simp (maxDischargeDepth:=9) only [↓A8,A1,AE,Ap,A6,AA,↓reduceIte,Nat.reduceEqDiff,Nat.reduceLT,Nat.reduceAdd,c1,c2,e3,e4]
   refine AP (LC pL pD pN pE A2 BB Au hl6 ?_) ?_
   ·simp (maxDischargeDepth:=9) only [A1,↓reduceIte,Nat.reduceEqDiff,BV]<;>(repeat' apply And.intro)<;>first | rfl | exact⟨_,rfl⟩ | exact⟨_,_,rfl⟩ | simp [A9,Aq]
   ·intro ex6 s6 hX6
    unfold DX at hX6
    obtain⟨rfl,n6_0⟩:=hX6
    cases h
    simp (maxDischargeDepth:=9) only [↓A8,A1,AE,A6,AA,↓reduceIte,Nat.reduceEqDiff,Nat.reduceLT,n6_0]
  ·rw [if_neg e4]at h
   have e4f:Au.2=false:=Bool.eq_false_iff.mpr e4
   cases h
   simp (maxDischargeDepth:=9) only [↓A8,A1,AE,Ap,A6,AA,↓reduceIte,Nat.reduceEqDiff,Nat.reduceLT,Nat.reduceAdd,c1,c2,e3,e4f]<;>(repeat' apply And.intro)<;>first | rfl | exact⟨_,rfl⟩ | exact⟨_,_,rfl⟩ | simp [A9,Aq]
 ·rw [if_neg e3]at h
  have e3f:BB.2.2=false:=Bool.eq_false_iff.mpr e3
  cases h
  simp (maxDischargeDepth:=9) only [↓A8,A1,AE,Ap,A6,AA,↓reduceIte,Nat.reduceEqDiff,Nat.reduceLT,Nat.reduceAdd,c1,c2,e3f]<;>(repeat' apply And.intro)<;>first | rfl | exact⟨_,rfl⟩ | exact⟨_,_,rfl⟩ | simp [A9,Aq]
end Go.Proofs.YtipfckompmhljaaGreat
