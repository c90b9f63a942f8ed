/- Distances and coverings, lifted. Conditions: none. -/
import Derived.Test.YtipfckompmhljaaGreatL6
import Derived.Test.YtipfckompmhljaaGreatNis
import Derived.Test.YtipfckompmhljaaGreatCon
import Derived.Test.YtipfckompmhljaaGreatRep
namespace Go.Proofs.YtipfckompmhljaaGreat
open Go Dv
set_option linter.unusedSimpArgs false
set_option linter.unusedVariables false
set_option maxRecDepth 100000
set_option maxHeartbeats 4000000
noncomputable def Bc(A2:List (List (Int×Int)))(AB A3 queue out1 queue1:List Int)(BT:Int):Option (((List Int)×(List Int)×Int)⊕((List Int)×(List Int))):=
 if BT<((A2.getD ((queue.getD 0 default).toNat) default).length:Int)then
  ck (0≤BT∧BT.toNat<(A2.getD ((queue.getD 0 default).toNat) default).length)<|
  ck (0≤(An (A2.getD ((queue.getD 0 default).toNat) default) BT.toNat)∧(An (A2.getD ((queue.getD 0 default).toNat) default) BT.toNat).toNat<out1.length)<|
  if(out1.getD ((An (A2.getD ((queue.getD 0 default).toNat) default) BT.toNat).toNat) default)<0 then
   ck (0≤(queue.getD 0 default)∧(queue.getD 0 default).toNat<out1.length)<|
   ck (queue1.length+1<1099511627776)<|
   some (Sum.inl ((out1.set ((An (A2.getD ((queue.getD 0 default).toNat) default) BT.toNat).toNat) (IntKind.i64.wrap ((out1.getD ((queue.getD 0 default).toNat) default)+1))),(queue1++[(An (A2.getD ((queue.getD 0 default).toNat) default) BT.toNat)]),IntKind.i64.wrap (BT+1)))
  else
   some (Sum.inl (out1,queue1,IntKind.i64.wrap (BT+1)))
 else
  some (Sum.inr (out1,queue1))
noncomputable def EQ(A2:List (List (Int×Int)))(AB A3 queue:List Int)(v:(List Int)×(List Int)×Int):Option ((List Int)×(List Int)):=DT (fun v=>Bc A2 AB A3 queue v.1 v.2.1 v.2.2) v
noncomputable def Bd(A2:List (List (Int×Int)))(AB A3 out queue:List Int):Option (((List Int)×(List Int))⊕((List Int))):=
 if 0<(queue.length:Int)then
  ck (0<queue.length)<|
  ck (1≤queue.length)<|
  ck (0≤(queue.getD 0 default)∧(queue.getD 0 default).toNat<A2.length)<|
  (EQ A2 AB A3 queue (out,(queue.drop 1),0)).bind fun K5=>
  some (Sum.inl (K5.1,K5.2))
 else
  some (Sum.inr out)
noncomputable def ER(A2:List (List (Int×Int)))(AB A3:List Int)(v:(List Int)×(List Int)):Option ((List Int)):=DT (fun v=>Bd A2 AB A3 v.1 v.2) v
noncomputable def Cx(A2:List (List (Int×Int)))(AB A3:List Int)(v_:Int):Option ((List Int)):=
 (nF [(-1)] (A2.length:Int)).bind fun BB=>
 ck (0≤v_∧v_.toNat<BB.length)<|
 (ER A2 AB A3 ((BB.set v_.toNat 0),[v_])).bind fun EV=>
 some EV
def Ue:SC:=
 .seq
 (.ops [
 ⟨some 35, .binOp .lss 3 (.tmp 34) (.tmp 33) 3,0,none⟩])
 (.seq
 (.cond (.tmp 35)
 .skip
 (.exit 2))
 (.seq
 (.block 3
 (.seq
 (.ops [
 ⟨some 36, .indexAddr 52 (.tmp 32) (.tmp 34),0,none⟩,
 ⟨some 37, .load 82 (.tmp 36),82,none⟩,
 ⟨some 9, .alloc 82,0,none⟩,
 ⟨none, .store 82 (.tmp 9) (.tmp 37),0,none⟩])
 (.seq
 (.ops [
 ⟨some 38, .move (.tmp 5),26,none⟩,
 ⟨some 39, .fieldAddr 82 (.tmp 9) 0,0,none⟩,
 ⟨some 40, .load 3 (.tmp 39),3,none⟩,
 ⟨some 41, .indexAddr 26 (.tmp 38) (.tmp 40),0,none⟩,
 ⟨some 42, .load 3 (.tmp 41),3,none⟩,
 ⟨some 43, .binOp .lss 3 (.tmp 42) (.const (.int .i64 0)) 3,4,none⟩])
 (.cond (.tmp 43)
 (.seq
 (.draws [
 (⟨[44,5,5],[44,45,46,47,48,49,50,51,52,52,51,5,51],[44]⟩,⟨some 44, .move (.tmp 5),26,none⟩),
 (⟨[45,9,9],[44,45,46,47,48,49,50,51,52,52,51,5,51],[45]⟩,⟨some 45, .fieldAddr 82 (.tmp 9) 0,0,none⟩),
 (⟨[46,45,9],[44,45,46,47,48,49,50,51,52,52,51,5,51],[46]⟩,⟨some 46, .load 3 (.tmp 45),3,none⟩),
 (⟨[47,5,5],[44,45,46,47,48,49,50,51,52,52,51,5,51],[47]⟩,⟨some 47, .move (.tmp 5),26,none⟩),
 (⟨[48,7,7],[44,45,46,47,48,49,50,51,52,52,51,5,51],[48]⟩,⟨some 48, .move (.tmp 7),3,none⟩),
 (⟨[49,47,48,5,7],[44,45,46,47,48,49,50,51,52,52,51,5,51],[49]⟩,⟨some 49, .indexAddr 26 (.tmp 47) (.tmp 48),0,none⟩),
 (⟨[50,49,5],[44,45,46,47,48,49,50,51,52,52,51,5,51],[50]⟩,⟨some 50, .load 3 (.tmp 49),3,none⟩),
 (⟨[51,50,5],[44,45,46,47,48,49,50,51,52,52,51,5,51],[51]⟩,⟨some 51, .binOp .add 3 (.tmp 50) (.const (.int .i64 1)) 3,3,none⟩),
 (⟨[52,44,46,5,9],[44,45,46,47,48,49,50,51,52,52,51,5,51],[52]⟩,⟨some 52, .indexAddr 26 (.tmp 44) (.tmp 46),0,none⟩),
 (⟨[52,51,5,51],[44,45,46,47,48,49,50,51,52,52,51,5,51],[52,51,5,51]⟩,⟨none, .store 3 (.tmp 52) (.tmp 51),0,none⟩)])
 (.ops [
 ⟨some 53, .move (.tmp 6),26,none⟩,
 ⟨some 54, .fieldAddr 82 (.tmp 9) 0,0,none⟩,
 ⟨some 55, .load 3 (.tmp 54),3,none⟩,
 ⟨some 56, .buildSlice 26 1 #[(0,(.tmp 55))],26,none⟩,
 ⟨some 57, .call ⟨(.builtin .append), #[(.tmp 53),(.tmp 56)], #[26,26]⟩,26,none⟩,
 ⟨some 6, .assign (.tmp 57),26,none⟩]))
 .skip))))
 (.ops [
 ⟨some 58, .binOp .add 3 (.tmp 34) (.const (.int .i64 1)) 3,3,none⟩,
 ⟨some 34, .move (.tmp 58),3,none⟩])))
def eG:SC:= .loop Ue
def Uf:SC:=
 .seq
 (.seq
 (.ops [
 ⟨some 20, .move (.tmp 6),26,none⟩,
 ⟨some 21, .call ⟨(.builtin .len), #[(.tmp 20)], #[26]⟩,3,none⟩,
 ⟨some 22, .binOp .gtr 3 (.tmp 21) (.const (.int .i64 0)) 3,4,none⟩])
 (.cond (.tmp 22)
 .skip
 (.exit 0)))
 (.block 1
 (.seq
 (.ops [
 ⟨some 23, .move (.tmp 6),26,none⟩,
 ⟨some 24, .indexAddr 26 (.tmp 23) (.const (.int .i64 0)),0,none⟩,
 ⟨some 25, .load 3 (.tmp 24),3,none⟩,
 ⟨some 7, .assign (.tmp 25),3,none⟩])
 (.seq
 (.ops [
 ⟨some 26, .move (.tmp 6),26,none⟩,
 ⟨some 27, .slice 26 (.tmp 26) (some (.const (.int .i64 1))) none none,900005,none⟩,
 ⟨some 6, .assign (.tmp 27),26,none⟩])
 (.seq
 (.ops [
 ⟨some 28, .fieldAddr 37 (.tmp 2) 0,0,none⟩,
 ⟨some 29, .load 35 (.tmp 28),35,none⟩,
 ⟨some 30, .move (.tmp 7),3,none⟩,
 ⟨some 31, .indexAddr 35 (.tmp 29) (.tmp 30),0,none⟩,
 ⟨some 32, .load 52 (.tmp 31),52,none⟩,
 ⟨some 33, .call ⟨(.builtin .len), #[(.tmp 32)], #[52]⟩,3,none⟩,
 ⟨some 34, .move (.const (.int .i64 0)),3,none⟩])
 (.block 2
 eG)))))
def eH:SC:= .loop Uf
def k46:SC:=
 .seq
 (.ops [
 ⟨some 2, .box 37 (.tmp 0),0,none⟩,
 ⟨some 4, .assign (.const (.slice none 0 0)),26,none⟩])
 (.seq
 (.ops [
 ⟨some 10, .buildSlice 26 1 #[(0,(.const (.int .i64 (-1))))],26,none⟩,
 ⟨some 11, .fieldAddr 37 (.tmp 2) 0,0,none⟩,
 ⟨some 12, .load 35 (.tmp 11),35,none⟩,
 ⟨some 13, .call ⟨(.builtin .len), #[(.tmp 12)], #[35]⟩,3,none⟩,
 ⟨some 14, .call ⟨(.value (.func 48)), #[(.tmp 10),(.tmp 13)], #[26,3]⟩,26,none⟩,
 ⟨some 5, .assign (.tmp 14),26,none⟩])
 (.seq
 (.ops [
 ⟨some 15, .move (.tmp 5),26,none⟩,
 ⟨some 16, .move (.tmp 1),3,none⟩,
 ⟨some 17, .indexAddr 26 (.tmp 15) (.tmp 16),0,none⟩,
 ⟨none, .store 3 (.tmp 17) (.const (.int .i64 0)),0,none⟩])
 (.seq
 (.ops [
 ⟨some 18, .move (.tmp 1),3,none⟩,
 ⟨some 19, .buildSlice 26 1 #[(0,(.tmp 18))],26,none⟩,
 ⟨some 6, .assign (.tmp 19),26,none⟩])
 (.seq
 (.block 0
 eH)
 (.seq
 (.ops [
 ⟨some 59, .move (.tmp 5),26,none⟩,
 ⟨some 4, .assign (.tmp 59),26,none⟩])
 .ret)))))
theorem nH:Tryz.f46.body.map (Am lends)=some k46:=by kernel_rfl
theorem A4s:As Tryz.f46 2=true:=by kernel_rfl
theorem c46{a l:List D}{r:D×List D}(h:Av Y.env k46 (fin AJ l.length [ResultVar.tmp 4] r) (entry a l))(ha:a.length=2):Y.call 46 a l=some r:=
 AC (Y:=Y) rfl Tryz.func46 (ha▸A4s) nH h
def BN(A2:List (List (Int×Int)))(AB A3 queue out1 queue1:List Int)(BT:Int)(s:St):Prop:=s.v 2=D.box [D.sl 52 (A9 (fun x=>D.sl 82 (AO .i64 .i64 x)) A2),D.sl 3 (A9 (D.int .i64) AB),D.sl 3 (A9 (D.int .i64) A3)]∧s.v 5=D.own 3 (A9 (D.int .i64) out1)∧s.v 6=D.own 3 (A9 (D.int .i64) queue1)∧s.v 7=D.int .i64 (queue.getD 0 default)∧s.v 32=D.sl 82 (AO .i64 .i64 (A2.getD ((queue.getD 0 default).toNat) default))∧s.v 33=D.int .i64 ((A2.getD ((queue.getD 0 default).toNat) default).length:Int)∧s.v 34=D.int .i64 BT
def D8(A2:List (List (Int×Int)))(AB A3 queue:List Int)(r:(List Int)×(List Int))(ex:Ex)(s:St):Prop:=ex= .exit 2∧s.v 2=D.box [D.sl 52 (A9 (fun x=>D.sl 82 (AO .i64 .i64 x)) A2),D.sl 3 (A9 (D.int .i64) AB),D.sl 3 (A9 (D.int .i64) A3)]∧s.v 5=D.own 3 (A9 (D.int .i64) r.1)∧s.v 6=D.own 3 (A9 (D.int .i64) r.2)
theorem KK(A2:List (List (Int×Int)))(AB A3 queue:List Int){v:(List Int)×(List Int)×Int}{s:St}{r:(List Int)×(List Int)}(h:EQ A2 AB A3 queue v=some r)(hM:BN A2 AB A3 queue v.1 v.2.1 v.2.2 s):Av Y.env eG (D8 A2 AB A3 queue r) s:=by
 unfold EQ at h
 refine Aa (c:=Ue) (fun v=>Bc A2 AB A3 queue v.1 v.2.1 v.2.2) (fun v s=>BN A2 AB A3 queue v.1 v.2.1 v.2.2 s) (D8 A2 AB A3 queue) ?_ h hM
 clear h hM s v r
 intro v s o hM h
 obtain⟨out1,queue1,BT⟩:=v
 dsimp only at h hM
 unfold Bc at h
 unfold BN at hM
 obtain⟨m0,m1,m2,m3,m4,m5,m6⟩:=hM
 unfold Ue
 by_cases e7:BT<((A2.getD ((queue.getD 0 default).toNat) default).length:Int)
 ·rw [if_pos e7]at h
  obtain⟨e8,h⟩:=Ae h
  obtain⟨e9,h⟩:=Ae h
  by_cases e10:(out1.getD ((An (A2.getD ((queue.getD 0 default).toNat) default) BT.toNat).toNat) default)<0
  ·rw [if_pos e10]at h
   obtain⟨e11,h⟩:=Ae h
   obtain⟨e12,h⟩:=Ae h
   cases h
   simp (maxDischargeDepth:=9) only [↓A8,A1,AE,Ap,A6,AA,↓reduceIte,Nat.reduceEqDiff,Nat.reduceLT,Nat.reduceLeDiff,Nat.reduceAdd,Nat.reduceBEq,m0,m1,m2,m3,m4,m5,m6,e7,e8.1,e8.2,e9.1,e9.2,e10,e11.1,e11.2,e12,BN,Ei]
  ·rw [if_neg e10]at h
   cases h
   simp (maxDischargeDepth:=9) only [↓A8,A1,AE,Ap,A6,AA,↓reduceIte,Nat.reduceEqDiff,Nat.reduceLT,Nat.reduceAdd,m0,m1,m2,m3,m4,m5,m6,e7,e8.1,e8.2,e9.1,e9.2,e10,BN,Ei]
 ·rw [if_neg e7]at h
  cases h
  simp (maxDischargeDepth:=9) only [↓A8,A1,AA,↓reduceIte,Nat.reduceEqDiff,Nat.reduceLT,m0,m1,m2,m5,m6,e7,BN,D8,Ge]
def Be(A2:List (List (Int×Int)))(AB A3 out queue:List Int)(s:St):Prop:=s.v 2=D.box [D.sl 52 (A9 (fun x=>D.sl 82 (AO .i64 .i64 x)) A2),D.sl 3 (A9 (D.int .i64) AB),D.sl 3 (A9 (D.int .i64) A3)]∧s.v 5=D.own 3 (A9 (D.int .i64) out)∧s.v 6=D.own 3 (A9 (D.int .i64) queue)
def D9(A2:List (List (Int×Int)))(AB A3:List Int)(r:(List Int))(ex:Ex)(s:St):Prop:=ex= .exit 0∧s.v 5=D.own 3 (A9 (D.int .i64) r)
theorem KL(A2:List (List (Int×Int)))(AB A3:List Int){v:(List Int)×(List Int)}{s:St}{r:(List Int)}(h:ER A2 AB A3 v=some r)(hM:Be A2 AB A3 v.1 v.2 s):Av Y.env eH (D9 A2 AB A3 r) s:=by
 unfold ER at h
 refine Aa (c:=Uf) (fun v=>Bd A2 AB A3 v.1 v.2) (fun v s=>Be A2 AB A3 v.1 v.2 s) (D9 A2 AB A3) ?_ h hM
 clear h hM s v r
 intro v s o hM h
 obtain⟨out,queue⟩:=v
 dsimp only at h hM
 unfold Bd at h
 unfold Be at hM
 obtain⟨m0,m1,m2⟩:=hM
 unfold Uf
 by_cases e3:0<(queue.length:Int)
 ·rw [if_pos e3]at h
  obtain⟨e4,h⟩:=Ae h
  obtain⟨e5,h⟩:=Ae h
  obtain⟨e6,h⟩:=Ae h
  obtain⟨K5,hl8,h⟩:=AL h
  try dsimp only at h
  simp (maxDischargeDepth:=9) only [↓A8,A1,AE,Ap,A6,AA,↓reduceIte,Nat.reduceEqDiff,Nat.reduceLT,Int.reduceLE,Int.reduceToNat,m0,m2,e3,e4,e5,e6.1,e6.2]
  refine AP (KK A2 AB A3 queue hl8 ?_) ?_
  ·simp (maxDischargeDepth:=9) only [A1,↓reduceIte,Nat.reduceEqDiff,m0,m1,BN]
  ·intro ex8 s8 hX8
   unfold D8 at hX8
   obtain⟨rfl,n8_0,n8_1,n8_2⟩:=hX8
   cases h
   simp (maxDischargeDepth:=9) only [↓A8,A1,↓reduceIte,n8_0,n8_1,n8_2,Be,Ei]
 ·rw [if_neg e3]at h
  cases h
  simp (maxDischargeDepth:=9) only [↓A8,A1,AE,A6,AA,↓reduceIte,Nat.reduceEqDiff,Nat.reduceLT,m1,m2,e3,Be,D9,Ge]
theorem Hm(A2:List (List (Int×Int)))(AB A3:List Int)(v_:Int){r:(List Int)}(h:Cx A2 AB A3 v_=some r):Y.call 46 [D.agg [D.sl 52 (A9 (fun x=>D.sl 82 (AO .i64 .i64 x)) A2),D.sl 3 (A9 (D.int .i64) AB),D.sl 3 (A9 (D.int .i64) A3)],D.int .i64 v_] []=some (D.own 3 (A9 (D.int .i64) r),[]):=by
 refine c46 ?_ rfl
 unfold k46
 unfold Cx at h
 obtain⟨BB,hl1,h⟩:=AL h
 try dsimp only at h
 have c1:=Qt [(-1)] (A2.length:Int) hl1
 simp only [EY,PA]at c1
 obtain⟨e2,h⟩:=Ae h
 obtain⟨EV,hl4,h⟩:=AL h
 try dsimp only at h
 simp (maxDischargeDepth:=9) only [↓A8,A1,AE,Ap,A6,AA,↓reduceIte,Nat.reduceEqDiff,Nat.reduceLT,Nat.reduceLeDiff,Nat.reduceAdd,Int.reduceNeg,c1,e2.1,e2.2]
 refine AP (KL A2 AB A3 hl4 ?_) ?_
 ·simp (maxDischargeDepth:=9) only [A1,↓reduceIte,Nat.reduceEqDiff,Int.reduceNeg,Be]<;>(repeat' apply And.intro)<;>first | rfl | exact⟨_,rfl⟩ | exact⟨_,_,rfl⟩ | simp [A9,Aq]
 ·intro ex4 s4 hX4
  unfold D9 at hX4
  obtain⟨rfl,n4_0⟩:=hX4
  cases h
  simp (maxDischargeDepth:=9) only [↓A8,A1,AE,A6,↓reduceIte,Nat.reduceEqDiff,Nat.reduceLT,n4_0]
noncomputable def F6(A2:List (List (Int×Int)))(v_:Int)(out:List Int)(B1:Int):Option (((List Int)×Int)⊕((List Int))):=
 if B1<((A2.getD v_.toNat default).length:Int)then
  ck (0≤B1∧B1.toNat<(A2.getD v_.toNat default).length)<|
  ck (out.length+1<1099511627776)<|
  some (Sum.inl ((out++[(An (A2.getD v_.toNat default) B1.toNat)]),IntKind.i64.wrap (B1+1)))
 else
  some (Sum.inr out)
noncomputable def J3(A2:List (List (Int×Int)))(v_:Int)(v:(List Int)×Int):Option ((List Int)):=DT (fun v=>F6 A2 v_ v.1 v.2) v
noncomputable def Jc(A2:List (List (Int×Int)))(AB A3:List Int)(v_:Int):Option ((List Int)):=
 ck (0≤v_∧v_.toNat<A2.length)<|
 (J3 A2 v_ ([],0)).bind fun FF=>
 some FF
def Ug:SC:=
 .seq
 (.ops [
 ⟨some 15, .binOp .lss 3 (.tmp 14) (.tmp 13) 3,0,none⟩])
 (.seq
 (.cond (.tmp 15)
 .skip
 (.exit 0))
 (.seq
 (.block 1
 (.seq
 (.ops [
 ⟨some 16, .indexAddr 52 (.tmp 12) (.tmp 14),0,none⟩,
 ⟨some 17, .load 82 (.tmp 16),82,none⟩,
 ⟨some 7, .alloc 82,0,none⟩,
 ⟨none, .store 82 (.tmp 7) (.tmp 17),0,none⟩])
 (.ops [
 ⟨some 18, .move (.tmp 5),26,none⟩,
 ⟨some 19, .fieldAddr 82 (.tmp 7) 0,0,none⟩,
 ⟨some 20, .load 3 (.tmp 19),3,none⟩,
 ⟨some 21, .buildSlice 26 1 #[(0,(.tmp 20))],26,none⟩,
 ⟨some 22, .call ⟨(.builtin .append), #[(.tmp 18),(.tmp 21)], #[26,26]⟩,26,none⟩,
 ⟨some 5, .assign (.tmp 22),26,none⟩])))
 (.ops [
 ⟨some 23, .binOp .add 3 (.tmp 14) (.const (.int .i64 1)) 3,3,none⟩,
 ⟨some 14, .move (.tmp 23),3,none⟩])))
def eI:SC:= .loop Ug
def k58:SC:=
 .seq
 (.ops [
 ⟨some 2, .box 37 (.tmp 0),0,none⟩,
 ⟨some 4, .assign (.const (.slice none 0 0)),26,none⟩])
 (.seq
 (.ops [
 ⟨some 5, .assign (.const (.slice none 0 0)),26,none⟩])
 (.seq
 (.seq
 (.ops [
 ⟨some 8, .fieldAddr 37 (.tmp 2) 0,0,none⟩,
 ⟨some 9, .load 35 (.tmp 8),35,none⟩,
 ⟨some 10, .move (.tmp 1),3,none⟩,
 ⟨some 11, .indexAddr 35 (.tmp 9) (.tmp 10),0,none⟩,
 ⟨some 12, .load 52 (.tmp 11),52,none⟩,
 ⟨some 13, .call ⟨(.builtin .len), #[(.tmp 12)], #[52]⟩,3,none⟩,
 ⟨some 14, .move (.const (.int .i64 0)),3,none⟩])
 (.block 0
 eI))
 (.seq
 (.ops [
 ⟨some 24, .move (.tmp 5),26,none⟩,
 ⟨some 4, .assign (.tmp 24),26,none⟩])
 .ret)))
theorem nI:Tryz.f58.body.map (Am lends)=some k58:=by kernel_rfl
theorem A4v:As Tryz.f58 2=true:=by kernel_rfl
theorem c58{a l:List D}{r:D×List D}(h:Av Y.env k58 (fin AJ l.length [ResultVar.tmp 4] r) (entry a l))(ha:a.length=2):Y.call 58 a l=some r:=
 AC (Y:=Y) rfl Tryz.func58 (ha▸A4v) nI h
def F7(A2:List (List (Int×Int)))(v_:Int)(out:List Int)(B1:Int)(s:St):Prop:=s.v 5=D.own 3 (A9 (D.int .i64) out)∧s.v 12=D.sl 82 (AO .i64 .i64 (A2.getD v_.toNat default))∧s.v 13=D.int .i64 ((A2.getD v_.toNat default).length:Int)∧s.v 14=D.int .i64 B1
def HO(A2:List (List (Int×Int)))(v_:Int)(r:(List Int))(ex:Ex)(s:St):Prop:=ex= .exit 0∧s.v 5=D.own 3 (A9 (D.int .i64) r)
theorem Qv(A2:List (List (Int×Int)))(v_:Int){v:(List Int)×Int}{s:St}{r:(List Int)}(h:J3 A2 v_ v=some r)(hM:F7 A2 v_ v.1 v.2 s):Av Y.env eI (HO A2 v_ r) s:=by
 unfold J3 at h
 refine Aa (c:=Ug) (fun v=>F6 A2 v_ v.1 v.2) (fun v s=>F7 A2 v_ v.1 v.2 s) (HO A2 v_) ?_ h hM
 clear h hM s v r
 intro v s o hM h
 obtain⟨out,B1⟩:=v
 dsimp only at h hM
 unfold F6 at h
 unfold F7 at hM
 obtain⟨m0,m1,m2,m3⟩:=hM
 unfold Ug
 by_cases e2:B1<((A2.getD v_.toNat default).length:Int)
 ·rw [if_pos e2]at h
  obtain⟨e3,h⟩:=Ae h
  obtain⟨e4,h⟩:=Ae h
  cases h
  simp (maxDischargeDepth:=9) only [↓A8,A1,AE,Ap,A6,AA,↓reduceIte,Nat.reduceEqDiff,Nat.reduceLT,Nat.reduceLeDiff,Nat.reduceAdd,m0,m1,m2,m3,e2,e3.1,e3.2,e4,F7,Ei]
 ·rw [if_neg e2]at h
  cases h
  simp (maxDischargeDepth:=9) only [↓A8,A1,AA,↓reduceIte,Nat.reduceEqDiff,Nat.reduceLT,m0,m2,m3,e2,F7,HO,Ge]
theorem Ll(A2:List (List (Int×Int)))(AB A3:List Int)(v_:Int){r:(List Int)}(h:Jc A2 AB A3 v_=some r):Y.call 58 [D.agg [D.sl 52 (A9 (fun x=>D.sl 82 (AO .i64 .i64 x)) A2),D.sl 3 (A9 (D.int .i64) AB),D.sl 3 (A9 (D.int .i64) A3)],D.int .i64 v_] []=some (D.own 3 (A9 (D.int .i64) r),[]):=by
 refine c58 ?_ rfl
 unfold k58
 unfold Jc at h
 obtain⟨e1,h⟩:=Ae h
 obtain⟨FF,hl3,h⟩:=AL h
 try dsimp only at h
 simp (maxDischargeDepth:=9) only [↓A8,A1,AE,Ap,A6,AA,↓reduceIte,Nat.reduceEqDiff,Nat.reduceLT,Nat.reduceAdd,e1.1,e1.2]
 refine AP (Qv A2 v_ hl3 ?_) ?_
 ·simp (maxDischargeDepth:=9) only [A1,↓reduceIte,Nat.reduceEqDiff,F7]<;>(repeat' apply And.intro)<;>first | rfl | exact⟨_,rfl⟩ | exact⟨_,_,rfl⟩ | simp [A9,Aq]
 ·intro ex3 s3 hX3
  unfold HO at hX3
  obtain⟨rfl,n3_0⟩:=hX3
  cases h
  simp (maxDischargeDepth:=9) only [↓A8,A1,AE,A6,↓reduceIte,Nat.reduceEqDiff,Nat.reduceLT,n3_0]
noncomputable def F8(A4:List (List (Int×Int)))(AD A7:List Int)(Qw:Int)(az:List Int)(Uh:Int):Option (((List Int)×Int)⊕((List Int))):=
 if Uh<((List.replicate A4.length 0).length:Int)then
  ck (0≤Uh∧Uh.toNat<az.length)<|
  some (Sum.inl ((az.set Uh.toNat (-1)),IntKind.i64.wrap (Uh+1)))
 else
  some (Sum.inr az)
noncomputable def J4(A4:List (List (Int×Int)))(AD A7:List Int)(Qw:Int)(v:(List Int)×Int):Option ((List Int)):=DT (fun v=>F8 A4 AD A7 Qw v.1 v.2) v
noncomputable def F9(A4:List (List (Int×Int)))(AD A7:List Int)(Hp:Int)(Lk:(List Int))(t5_1 t7_1:List Int)(M8:Int):Option (((List Int)×(List Int)×Int)⊕((List Int)×(List Int))):=
 if M8<(Lk.length:Int)then
  ck (0≤M8∧M8.toNat<Lk.length)<|
  ck (0≤(Lk.getD M8.toNat default)∧(Lk.getD M8.toNat default).toNat<t5_1.length)<|
  if(t5_1.getD ((Lk.getD M8.toNat default).toNat) default)<0 then
   ck (0≤Hp∧Hp.toNat<t7_1.length)<|
   ck (0≤(t7_1.getD Hp.toNat default)∧(t7_1.getD Hp.toNat default).toNat<t5_1.length)<|
   ck (t7_1.length+1<1099511627776)<|
   some (Sum.inl ((t5_1.set ((Lk.getD M8.toNat default).toNat) (IntKind.i64.wrap ((t5_1.getD ((t7_1.getD Hp.toNat default).toNat) default)+1))),(t7_1++[(Lk.getD M8.toNat default)]),IntKind.i64.wrap (M8+1)))
  else
   some (Sum.inl (t5_1,t7_1,IntKind.i64.wrap (M8+1)))
 else
  some (Sum.inr (t5_1,t7_1))
noncomputable def J5(A4:List (List (Int×Int)))(AD A7:List Int)(Hp:Int)(Lk:(List Int))(v:(List Int)×(List Int)×Int):Option ((List Int)×(List Int)):=DT (fun v=>F9 A4 AD A7 Hp Lk v.1 v.2.1 v.2.2) v
noncomputable def FA(A4:List (List (Int×Int)))(AD A7 az gS:List Int)(Hp:Int):Option (((List Int)×(List Int)×Int)⊕((List Int))):=
 if Hp<(gS.length:Int)then
  ck (0≤Hp∧Hp.toNat<gS.length)<|
  (Jc A4 AD A7 (gS.getD Hp.toNat default)).bind fun Lk=>
  (J5 A4 AD A7 Hp Lk (az,gS,0)).bind fun HG=>
  some (Sum.inl (HG.1,HG.2,IntKind.i64.wrap (Hp+1)))
 else
  some (Sum.inr az)
noncomputable def J6(A4:List (List (Int×Int)))(AD A7:List Int)(v:(List Int)×(List Int)×Int):Option ((List Int)):=DT (fun v=>FA A4 AD A7 v.1 v.2.1 v.2.2) v
noncomputable def Jd(A4:List (List (Int×Int)))(AD A7:List Int)(Qw:Int):Option ((List Int)):=
 ck (0≤(A4.length:Int)∧(A4.length:Int)<1099511627776)<|
 (J4 A4 AD A7 Qw ((List.replicate A4.length 0),0)).bind fun FF=>
 ck (0≤Qw∧Qw.toNat<FF.length)<|
 (J6 A4 AD A7 ((FF.set Qw.toNat 0),[Qw],0)).bind fun FN=>
 some FN
def Ui:SC:=
 .seq
 (.ops [
 ⟨some 18, .binOp .lss 3 (.tmp 17) (.tmp 16) 3,0,none⟩])
 (.seq
 (.cond (.tmp 18)
 .skip
 (.exit 0))
 (.seq
 (.block 1
 (.seq
 (.ops [
 ⟨some 19, .move (.tmp 17),3,none⟩,
 ⟨some 6, .assign (.tmp 19),3,none⟩])
 (.ops [
 ⟨some 20, .move (.tmp 5),26,none⟩,
 ⟨some 21, .move (.tmp 6),3,none⟩,
 ⟨some 22, .indexAddr 26 (.tmp 20) (.tmp 21),0,none⟩,
 ⟨none, .store 3 (.tmp 22) (.const (.int .i64 (-1))),0,none⟩])))
 (.ops [
 ⟨some 23, .binOp .add 3 (.tmp 17) (.const (.int .i64 1)) 3,3,none⟩,
 ⟨some 17, .move (.tmp 23),3,none⟩])))
def eJ:SC:= .loop Ui
def Uj:SC:=
 .seq
 (.ops [
 ⟨some 43, .binOp .lss 3 (.tmp 42) (.tmp 41) 3,0,none⟩])
 (.seq
 (.cond (.tmp 43)
 .skip
 (.exit 4))
 (.seq
 (.block 5
 (.seq
 (.ops [
 ⟨some 44, .indexAddr 26 (.tmp 40) (.tmp 42),0,none⟩,
 ⟨some 45, .load 3 (.tmp 44),3,none⟩,
 ⟨some 10, .assign (.tmp 45),3,none⟩])
 (.seq
 (.ops [
 ⟨some 46, .move (.tmp 5),26,none⟩,
 ⟨some 47, .move (.tmp 10),3,none⟩,
 ⟨some 48, .indexAddr 26 (.tmp 46) (.tmp 47),0,none⟩,
 ⟨some 49, .load 3 (.tmp 48),3,none⟩,
 ⟨some 50, .binOp .lss 3 (.tmp 49) (.const (.int .i64 0)) 3,4,none⟩])
 (.cond (.tmp 50)
 (.seq
 (.ops [
 ⟨some 51, .move (.tmp 5),26,none⟩,
 ⟨some 52, .move (.tmp 10),3,none⟩,
 ⟨some 53, .move (.tmp 5),26,none⟩,
 ⟨some 54, .move (.tmp 7),26,none⟩,
 ⟨some 55, .move (.tmp 8),3,none⟩,
 ⟨some 56, .indexAddr 26 (.tmp 54) (.tmp 55),0,none⟩,
 ⟨some 57, .load 3 (.tmp 56),3,none⟩,
 ⟨some 58, .indexAddr 26 (.tmp 53) (.tmp 57),0,none⟩,
 ⟨some 59, .load 3 (.tmp 58),3,none⟩,
 ⟨some 60, .binOp .add 3 (.tmp 59) (.const (.int .i64 1)) 3,3,none⟩,
 ⟨some 61, .indexAddr 26 (.tmp 51) (.tmp 52),0,none⟩,
 ⟨none, .store 3 (.tmp 61) (.tmp 60),0,none⟩])
 (.ops [
 ⟨some 62, .move (.tmp 7),26,none⟩,
 ⟨some 63, .move (.tmp 10),3,none⟩,
 ⟨some 64, .buildSlice 26 1 #[(0,(.tmp 63))],26,none⟩,
 ⟨some 65, .call ⟨(.builtin .append), #[(.tmp 62),(.tmp 64)], #[26,26]⟩,26,none⟩,
 ⟨some 7, .assign (.tmp 65),26,none⟩]))
 .skip))))
 (.ops [
 ⟨some 66, .binOp .add 3 (.tmp 42) (.const (.int .i64 1)) 3,3,none⟩,
 ⟨some 42, .move (.tmp 66),3,none⟩])))
def eK:SC:= .loop Uj
def Uk:SC:=
 .seq
 (.seq
 (.ops [
 ⟨some 29, .move (.tmp 8),3,none⟩,
 ⟨some 30, .move (.tmp 7),26,none⟩,
 ⟨some 31, .call ⟨(.builtin .len), #[(.tmp 30)], #[26]⟩,3,none⟩,
 ⟨some 32, .binOp .lss 3 (.tmp 29) (.tmp 31) 3,4,none⟩])
 (.cond (.tmp 32)
 .skip
 (.exit 2)))
 (.seq
 (.block 3
 (.seq
 (.draws [
 (⟨[35,2,2],[35,36,37,38,39,40,41,42],[35]⟩,⟨some 35, .load 37 (.tmp 2),37,none⟩),
 (⟨[36,7,7],[35,36,37,38,39,40,41,42],[36]⟩,⟨some 36, .move (.tmp 7),26,none⟩),
 (⟨[37,8,8],[35,36,37,38,39,40,41,42],[37]⟩,⟨some 37, .move (.tmp 8),3,none⟩),
 (⟨[38,36,37,7,8],[35,36,37,38,39,40,41,42],[38]⟩,⟨some 38, .indexAddr 26 (.tmp 36) (.tmp 37),0,none⟩),
 (⟨[39,38,7],[35,36,37,38,39,40,41,42],[39]⟩,⟨some 39, .load 3 (.tmp 38),3,none⟩),
 (⟨[40,35,39,2,7],[35,36,37,38,39,40,41,42],[40]⟩,⟨some 40, .call ⟨(.value (.func 58)), #[(.tmp 35),(.tmp 39)], #[37,3]⟩,26,none⟩),
 (⟨[41,40,40],[35,36,37,38,39,40,41,42],[41]⟩,⟨some 41, .call ⟨(.builtin .len), #[(.tmp 40)], #[26]⟩,3,none⟩),
 (⟨[42],[35,36,37,38,39,40,41,42],[42]⟩,⟨some 42, .move (.const (.int .i64 0)),3,none⟩)])
 (.block 4
 eK)))
 (.ops [
 ⟨some 33, .move (.tmp 8),3,none⟩,
 ⟨some 34, .binOp .add 3 (.tmp 33) (.const (.int .i64 1)) 3,3,none⟩,
 ⟨some 8, .assign (.tmp 34),3,none⟩]))
def eL:SC:= .loop Uk
def k57:SC:=
 .seq
 (.ops [
 ⟨some 2, .box 37 (.tmp 0),0,none⟩,
 ⟨some 4, .assign (.const (.slice none 0 0)),26,none⟩])
 (.seq
 (.ops [
 ⟨some 11, .fieldAddr 37 (.tmp 2) 0,0,none⟩,
 ⟨some 12, .load 35 (.tmp 11),35,none⟩,
 ⟨some 13, .call ⟨(.builtin .len), #[(.tmp 12)], #[35]⟩,3,none⟩,
 ⟨some 14, .makeSlice 26 (.tmp 13) (.tmp 13),26,none⟩,
 ⟨some 5, .assign (.tmp 14),26,none⟩])
 (.seq
 (.seq
 (.ops [
 ⟨some 15, .move (.tmp 5),26,none⟩,
 ⟨some 16, .call ⟨(.builtin .len), #[(.tmp 15)], #[26]⟩,3,none⟩,
 ⟨some 17, .move (.const (.int .i64 0)),3,none⟩])
 (.block 0
 eJ))
 (.seq
 (.ops [
 ⟨some 24, .move (.tmp 5),26,none⟩,
 ⟨some 25, .move (.tmp 1),3,none⟩,
 ⟨some 26, .indexAddr 26 (.tmp 24) (.tmp 25),0,none⟩,
 ⟨none, .store 3 (.tmp 26) (.const (.int .i64 0)),0,none⟩])
 (.seq
 (.ops [
 ⟨some 27, .move (.tmp 1),3,none⟩,
 ⟨some 28, .buildSlice 26 1 #[(0,(.tmp 27))],26,none⟩,
 ⟨some 7, .assign (.tmp 28),26,none⟩])
 (.seq
 (.seq
 (.ops [
 ⟨some 8, .assign (.const (.int .i64 0)),3,none⟩])
 (.block 2
 eL))
 (.seq
 (.ops [
 ⟨some 67, .move (.tmp 5),26,none⟩,
 ⟨some 4, .assign (.tmp 67),26,none⟩])
 .ret))))))
theorem nJ:Tryz.f57.body.map (Am lends)=some k57:=by kernel_rfl
theorem A4x:As Tryz.f57 2=true:=by kernel_rfl
theorem c57{a l:List D}{r:D×List D}(h:Av Y.env k57 (fin AJ l.length [ResultVar.tmp 4] r) (entry a l))(ha:a.length=2):Y.call 57 a l=some r:=
 AC (Y:=Y) rfl Tryz.func57 (ha▸A4x) nJ h
def FB(A4:List (List (Int×Int)))(AD A7:List Int)(Qw:Int)(az:List Int)(Uh:Int)(s:St):Prop:=s.v 1=D.int .i64 Qw∧s.v 2=D.box [D.sl 52 (A9 (fun x=>D.sl 82 (AO .i64 .i64 x)) A4),D.sl 3 (A9 (D.int .i64) AD),D.sl 3 (A9 (D.int .i64) A7)]∧s.v 5=D.own 3 (A9 (D.int .i64) az)∧s.v 16=D.int .i64 ((List.replicate A4.length 0).length:Int)∧s.v 17=D.int .i64 Uh
def HP(A4:List (List (Int×Int)))(AD A7:List Int)(Qw:Int)(r:(List Int))(ex:Ex)(s:St):Prop:=ex= .exit 0∧s.v 1=D.int .i64 Qw∧s.v 2=D.box [D.sl 52 (A9 (fun x=>D.sl 82 (AO .i64 .i64 x)) A4),D.sl 3 (A9 (D.int .i64) AD),D.sl 3 (A9 (D.int .i64) A7)]∧s.v 5=D.own 3 (A9 (D.int .i64) r)
theorem Qx(A4:List (List (Int×Int)))(AD A7:List Int)(Qw:Int){v:(List Int)×Int}{s:St}{r:(List Int)}(h:J4 A4 AD A7 Qw v=some r)(hM:FB A4 AD A7 Qw v.1 v.2 s):Av Y.env eJ (HP A4 AD A7 Qw r) s:=by
 unfold J4 at h
 refine Aa (c:=Ui) (fun v=>F8 A4 AD A7 Qw v.1 v.2) (fun v s=>FB A4 AD A7 Qw v.1 v.2 s) (HP A4 AD A7 Qw) ?_ h hM
 clear h hM s v r
 intro v s o hM h
 obtain⟨az,Uh⟩:=v
 dsimp only at h hM
 unfold F8 at h
 unfold FB at hM
 obtain⟨m0,m1,m2,m3,m4⟩:=hM
 unfold Ui
 by_cases e2:Uh<((List.replicate A4.length 0).length:Int)
 ·rw [if_pos e2]at h
  obtain⟨e3,h⟩:=Ae h
  cases h
  simp (maxDischargeDepth:=9) only [↓A8,A1,AE,A6,AA,↓reduceIte,Nat.reduceEqDiff,Nat.reduceLT,Int.reduceNeg,m0,m1,m2,m3,m4,e2,e3.1,e3.2,FB,Ei]
 ·rw [if_neg e2]at h
  cases h
  simp (maxDischargeDepth:=9) only [↓A8,A1,AA,↓reduceIte,Nat.reduceEqDiff,Nat.reduceLT,Int.reduceNeg,m0,m1,m2,m3,m4,e2,FB,HP,Ge]
def DP(A4:List (List (Int×Int)))(AD A7:List Int)(Hp:Int)(Lk:(List Int))(t5_1 t7_1:List Int)(M8:Int)(s:St):Prop:=s.v 2=D.box [D.sl 52 (A9 (fun x=>D.sl 82 (AO .i64 .i64 x)) A4),D.sl 3 (A9 (D.int .i64) AD),D.sl 3 (A9 (D.int .i64) A7)]∧s.v 5=D.own 3 (A9 (D.int .i64) t5_1)∧s.v 7=D.own 3 (A9 (D.int .i64) t7_1)∧s.v 8=D.int .i64 Hp∧s.v 40=D.own 3 (A9 (D.int .i64) Lk)∧s.v 41=D.int .i64 (Lk.length:Int)∧s.v 42=D.int .i64 M8
def HQ(A4:List (List (Int×Int)))(AD A7:List Int)(Hp:Int)(Lk:(List Int))(r:(List Int)×(List Int))(ex:Ex)(s:St):Prop:=ex= .exit 4∧s.v 2=D.box [D.sl 52 (A9 (fun x=>D.sl 82 (AO .i64 .i64 x)) A4),D.sl 3 (A9 (D.int .i64) AD),D.sl 3 (A9 (D.int .i64) A7)]∧s.v 5=D.own 3 (A9 (D.int .i64) r.1)∧s.v 7=D.own 3 (A9 (D.int .i64) r.2)∧s.v 8=D.int .i64 Hp
theorem Qy(A4:List (List (Int×Int)))(AD A7:List Int)(Hp:Int)(Lk:(List Int)){v:(List Int)×(List Int)×Int}{s:St}{r:(List Int)×(List Int)}(h:J5 A4 AD A7 Hp Lk v=some r)(hM:DP A4 AD A7 Hp Lk v.1 v.2.1 v.2.2 s):Av Y.env eK (HQ A4 AD A7 Hp Lk r) s:=by
 unfold J5 at h
 refine Aa (c:=Uj) (fun v=>F9 A4 AD A7 Hp Lk v.1 v.2.1 v.2.2) (fun v s=>DP A4 AD A7 Hp Lk v.1 v.2.1 v.2.2 s) (HQ A4 AD A7 Hp Lk) ?_ h hM
 clear h hM s v r
 intro v s o hM h
 obtain⟨t5_1,t7_1,M8⟩:=v
 dsimp only at h hM
 unfold F9 at h
 unfold DP at hM
 obtain⟨m0,m1,m2,m3,m4,m5,m6⟩:=hM
 unfold Uj
 by_cases e8:M8<(Lk.length:Int)
 ·rw [if_pos e8]at h
  obtain⟨e9,h⟩:=Ae h
  obtain⟨e10,h⟩:=Ae h
  by_cases e11:(t5_1.getD ((Lk.getD M8.toNat default).toNat) default)<0
  ·rw [if_pos e11]at h
   obtain⟨e12,h⟩:=Ae h
   obtain⟨e13,h⟩:=Ae h
   obtain⟨e14,h⟩:=Ae h
   cases h
   simp (maxDischargeDepth:=9) only [↓A8,A1,AE,A6,AA,↓reduceIte,Nat.reduceEqDiff,Nat.reduceLT,Nat.reduceLeDiff,Nat.reduceAdd,m0,m1,m2,m3,m4,m5,m6,e8,e9.1,e9.2,e10.1,e10.2,e11,e12.1,e12.2,e13.1,e13.2,e14,DP,Ei]
  ·rw [if_neg e11]at h
   cases h
   simp (maxDischargeDepth:=9) only [↓A8,A1,AE,A6,AA,↓reduceIte,Nat.reduceEqDiff,Nat.reduceLT,m0,m1,m2,m3,m4,m5,m6,e8,e9.1,e9.2,e10.1,e10.2,e11,DP,Ei]
 ·rw [if_neg e8]at h
  cases h
  simp (maxDischargeDepth:=9) only [↓A8,A1,AA,↓reduceIte,Nat.reduceEqDiff,Nat.reduceLT,m0,m1,m2,m3,m5,m6,e8,DP,HQ,Ge]
def FC(A4:List (List (Int×Int)))(AD A7 az gS:List Int)(Hp:Int)(s:St):Prop:=s.v 2=D.box [D.sl 52 (A9 (fun x=>D.sl 82 (AO .i64 .i64 x)) A4),D.sl 3 (A9 (D.int .i64) AD),D.sl 3 (A9 (D.int .i64) A7)]∧s.v 5=D.own 3 (A9 (D.int .i64) az)∧s.v 7=D.own 3 (A9 (D.int .i64) gS)∧s.v 8=D.int .i64 Hp
def HR(A4:List (List (Int×Int)))(AD A7:List Int)(r:(List Int))(ex:Ex)(s:St):Prop:=ex= .exit 2∧s.v 5=D.own 3 (A9 (D.int .i64) r)
theorem Qz(A4:List (List (Int×Int)))(AD A7:List Int){v:(List Int)×(List Int)×Int}{s:St}{r:(List Int)}(h:J6 A4 AD A7 v=some r)(hM:FC A4 AD A7 v.1 v.2.1 v.2.2 s):Av Y.env eL (HR A4 AD A7 r) s:=by
 unfold J6 at h
 refine Aa (c:=Uk) (fun v=>FA A4 AD A7 v.1 v.2.1 v.2.2) (fun v s=>FC A4 AD A7 v.1 v.2.1 v.2.2 s) (HR A4 AD A7) ?_ h hM
 clear h hM s v r
 intro v s o hM h
 obtain⟨az,gS,Hp⟩:=v
 dsimp only at h hM
 unfold FA at h
 unfold FC at hM
 obtain⟨m0,m1,m2,m3⟩:=hM
 unfold Uk
 by_cases e5:Hp<(gS.length:Int)
 ·rw [if_pos e5]at h
  obtain⟨e6,h⟩:=Ae h
  obtain⟨Lk,hl7,h⟩:=AL h
  try dsimp only at h
  have c7:=Ll A4 AD A7 (gS.getD Hp.toNat default) hl7
  obtain⟨HG,hl9,h⟩:=AL h
  try dsimp only at h
  simp (maxDischargeDepth:=9) only [↓A8,A1,AE,Ap,A6,AA,↓reduceIte,Nat.reduceEqDiff,Nat.reduceLT,Nat.reduceAdd,Nat.reduceBEq,m0,m2,m3,e5,e6.1,e6.2,c7]
  refine AP (Qy A4 AD A7 Hp Lk hl9 ?_) ?_
  ·simp (maxDischargeDepth:=9) only [A1,↓reduceIte,Nat.reduceEqDiff,m0,m1,m2,m3,DP]
  ·intro ex9 s9 hX9
   unfold HQ at hX9
   obtain⟨rfl,n9_0,n9_1,n9_2,n9_3⟩:=hX9
   cases h
   simp (maxDischargeDepth:=9) only [↓A8,A1,AA,↓reduceIte,Nat.reduceEqDiff,Nat.reduceLT,n9_0,n9_1,n9_2,n9_3,FC,Ei]
 ·rw [if_neg e5]at h
  cases h
  simp (maxDischargeDepth:=9) only [↓A8,A1,AE,A6,AA,↓reduceIte,Nat.reduceEqDiff,Nat.reduceLT,m1,m2,m3,e5,FC,HR,Ge]
theorem Lm(A4:List (List (Int×Int)))(AD A7:List Int)(Qw:Int){r:(List Int)}(h:Jd A4 AD A7 Qw=some r):Y.call 57 [D.agg [D.sl 52 (A9 (fun x=>D.sl 82 (AO .i64 .i64 x)) A4),D.sl 3 (A9 (D.int .i64) AD),D.sl 3 (A9 (D.int .i64) A7)],D.int .i64 Qw] []=some (D.own 3 (A9 (D.int .i64) r),[]):=by
 refine c57 ?_ rfl
 unfold k57
 unfold Jd at h
 obtain⟨e1,h⟩:=Ae h
 obtain⟨FF,hl3,h⟩:=AL h
 try dsimp only at h
 simp (maxDischargeDepth:=9) only [↓A8,A1,AE,A6,AA,↓reduceIte,Nat.reduceEqDiff,Nat.reduceLT,Nat.reduceLeDiff,Nat.reduceAdd,e1.1,e1.2]
 refine AP (Qx A4 AD A7 Qw hl3 ?_) ?_
 ·simp (maxDischargeDepth:=9) only [A1,A6,↓reduceIte,Nat.reduceEqDiff,Nat.reduceLT,FB]<;>(repeat' apply And.intro)<;>first | rfl | exact⟨_,rfl⟩ | exact⟨_,_,rfl⟩ | simp [A9]
 ·intro ex3 s3 hX3
  unfold HP at hX3
  obtain⟨rfl,n3_0,n3_1,n3_2⟩:=hX3
  obtain⟨e4,h⟩:=Ae h
  obtain⟨FN,hl6,h⟩:=AL h
  try dsimp only at h
  simp (maxDischargeDepth:=9) only [↓A8,A1,AE,A6,AA,↓reduceIte,Nat.reduceEqDiff,Nat.reduceLT,Nat.reduceLeDiff,Nat.reduceAdd,n3_0,n3_2,e4.1,e4.2]
  refine AP (Qz A4 AD A7 hl6 ?_) ?_
  ·simp (maxDischargeDepth:=9) only [A1,↓reduceIte,Nat.reduceEqDiff,n3_1,n3_2,FC]<;>(repeat' apply And.intro)<;>first | rfl | exact⟨_,rfl⟩ | exact⟨_,_,rfl⟩ | simp [A9,Aq]
  ·intro ex6 s6 hX6
   unfold HR at hX6
   obtain⟨rfl,n6_0⟩:=hX6
   cases h
   simp (maxDischargeDepth:=9) only [↓A8,A1,AE,A6,↓reduceIte,Nat.reduceEqDiff,Nat.reduceLT,n6_0]
end Go.Proofs.YtipfckompmhljaaGreat
